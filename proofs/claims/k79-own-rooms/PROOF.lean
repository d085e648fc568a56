import PyProof.Rows.All
import Wide.All
import OpenK.AllK
import Wide.FinOn
import KE.KStateDown
import KE.GoesNew
import KE.KRevSl
import KE.SortData
import Lean
import HandS.ForMost
import HandS.More
import HandS.Exc
import HandS.Sort
import HandS.SortInts
import HandS.SortKw
import HandS.SetKeys
import HandS.Strs
import HandS.TupAny
import HandS.IsInst
import HandS.Conv
import HandS.WideBits
import HandS.Style
import HandS.Flow
import HandS.FStr
import HandS.Codes
import HandS.Defaults
import HandS.Head0
import HandS.Head1
import HandS.Head2
import HandS.HeadEnd
import HandS.HeadHook1
import HandS.HeadHook2
import HandS.HeadHook3
import HandS.HeadHook4
import PySem.Challenge.RW_owncontraries_k79_whole_own_rooms_by_kin
import HandS.SetFor
import HandS.Walk
set_option Elab.async false
set_option linter.all false
namespace Ow
/-! words: bits of numbers -/
theorem xor_cancel (a b : Nat) : (a ^^^ b) ^^^ b = a := by
  rw [Nat.xor_assoc, Nat.xor_self, Nat.xor_zero]
theorem xor_cancel_left (a b : Nat) : a ^^^ (a ^^^ b) = b := by
  rw [← Nat.xor_assoc, Nat.xor_self, Nat.zero_xor]
theorem xor_eq_zero {a b : Nat} : a ^^^ b = 0 ↔ a = b := by
  constructor
  · intro h
    have := xor_cancel a b
    rw [h, Nat.zero_xor] at this
    exact this.symm
  · rintro rfl
    exact Nat.xor_self _
/-- smaller by the highest bit at which they differ -/
theorem lt_of_bit {x y : Nat} (i : Nat) (hx : x.testBit i = false) (hy : y.testBit i = true) (h : ∀ j, i < j → x.testBit j = y.testBit j) : x < y := by
  have e : x >>> (i + 1) = y >>> (i + 1) := by
    apply Nat.eq_of_testBit_eq
    intro j
    rw [Nat.testBit_shiftRight, Nat.testBit_shiftRight]
    exact h _ (by omega)
  rw [Nat.shiftRight_eq_div_pow, Nat.shiftRight_eq_div_pow] at e
  have hx' := (Nat.testBit_eq_decide_div_mod_eq (x := x) (i := i)).symm.trans hx
  have hy' := (Nat.testBit_eq_decide_div_mod_eq (x := y) (i := i)).symm.trans hy
  have hx2 : x / 2 ^ i % 2 ≠ 1 := of_decide_eq_false hx'
  have hy2 : y / 2 ^ i % 2 = 1 := of_decide_eq_true hy'
  have ex : x / 2 ^ (i + 1) = x / 2 ^ i / 2 := by rw [Nat.pow_succ, Nat.div_div_eq_div_mul]
  have ey : y / 2 ^ (i + 1) = y / 2 ^ i / 2 := by rw [Nat.pow_succ, Nat.div_div_eq_div_mul]
  have hlt : x / 2 ^ i < y / 2 ^ i := by omega
  exact Nat.lt_of_not_le fun hle => absurd (Nat.div_le_div_right (c := 2 ^ i) hle) (by omega)
theorem log2_bit {b : Nat} (h : b ≠ 0) : b.testBit b.log2 = true := Nat.testBit_log2 h
theorem above_log2 {b i : Nat} (h : b.log2 < i) : b.testBit i = false := by
  by_cases hb : b = 0
  · subst hb
    exact Nat.zero_testBit i
  · exact Nat.testBit_lt_two_pow ((Nat.log2_lt hb).mp h)
/-- the log2 is told by the highest bit -/
theorem log2_eq {b i : Nat} (h : b.testBit i = true) (h2 : ∀ j, i < j → b.testBit j = false) : b.log2 = i := by
  have hb : b ≠ 0 := by
    rintro rfl
    rw [Nat.zero_testBit] at h
    cases h
  have h3 := log2_bit hb
  rcases Nat.lt_trichotomy b.log2 i with q | q | q
  · rw [above_log2 q] at h
    cases h
  · exact q
  · rw [h2 _ q] at h3
    cases h3
/-- what min takes off -/
theorem min_xor {w b : Nat} (hb : b ≠ 0) : min w (w ^^^ b) = if w.testBit b.log2 then w ^^^ b else w := by
  have hh : ∀ j, b.log2 < j → (w ^^^ b).testBit j = w.testBit j := fun j hj => by
    rw [Nat.testBit_xor, above_log2 hj, Bool.xor_false]
  have hl : (w ^^^ b).testBit b.log2 = !(w.testBit b.log2) := by
    rw [Nat.testBit_xor, log2_bit hb, Bool.xor_true]
  cases q : w.testBit b.log2 with
  | true =>
    rw [if_pos rfl]
    exact Nat.min_eq_right (Nat.le_of_lt (lt_of_bit b.log2 (by rw [hl, q]; rfl) q hh))
  | false =>
    rw [if_neg Bool.false_ne_true]
    exact Nat.min_eq_left (Nat.le_of_lt (lt_of_bit b.log2 q (by rw [hl, q]; rfl) fun j hj => (hh j hj).symm))

/-! rooms: all sums -/
def span : List Nat → List Nat
  | [] => [0]
  | b :: B => span B ++ (span B).map fun w => w ^^^ b
theorem mem_span_nil {w : Nat} : w ∈ span [] ↔ w = 0 := by simp [span]
theorem mem_span_cons {w b : Nat} {B : List Nat} : w ∈ span (b :: B) ↔ w ∈ span B ∨ w ^^^ b ∈ span B := by
  rw [span, List.mem_append, List.mem_map]
  constructor
  · rintro (h | ⟨x, hx, rfl⟩)
    · exact .inl h
    · exact .inr (by rw [xor_cancel]; exact hx)
  · rintro (h | h)
    · exact .inl h
    · exact .inr ⟨_, h, xor_cancel w b⟩
theorem length_span : ∀ B : List Nat, (span B).length = 2 ^ B.length
  | [] => rfl
  | b :: B => by
    rw [span, List.length_append, List.length_map, length_span B, List.length_cons, Nat.pow_succ]
    omega
theorem zero_mem_span : ∀ B : List Nat, 0 ∈ span B
  | [] => mem_span_nil.mpr rfl
  | b :: B => mem_span_cons.mpr (.inl (zero_mem_span B))
theorem xor_mem_span : ∀ {B : List Nat} {x y : Nat}, x ∈ span B → y ∈ span B → x ^^^ y ∈ span B
  | [], x, y, hx, hy => by
    rw [mem_span_nil] at *
    rw [hx, hy]
    rfl
  | b :: B, x, y, hx, hy => by
    rw [mem_span_cons] at *
    rcases hx with hx | hx <;> rcases hy with hy | hy
    · exact .inl (xor_mem_span hx hy)
    · refine .inr ?_
      rw [Nat.xor_assoc]
      exact xor_mem_span hx hy
    · refine .inr ?_
      rw [Nat.xor_assoc, Nat.xor_comm y b, ← Nat.xor_assoc]
      exact xor_mem_span hx hy
    · refine .inl ?_
      have e : x ^^^ y = (x ^^^ b) ^^^ (y ^^^ b) := by
        rw [Nat.xor_assoc, Nat.xor_comm y b, ← Nat.xor_assoc b b y, Nat.xor_self, Nat.zero_xor]
      rw [e]
      exact xor_mem_span hx hy
theorem mem_span_of_mem : ∀ {B : List Nat} {b : Nat}, b ∈ B → b ∈ span B
  | c :: B, b, h => by
    rw [mem_span_cons]
    rcases List.mem_cons.mp h with rfl | h
    · exact .inr (by rw [Nat.xor_self]; exact zero_mem_span B)
    · exact .inl (mem_span_of_mem h)
theorem span_sub : ∀ {B C : List Nat}, (∀ b ∈ B, b ∈ span C) → ∀ {w}, w ∈ span B → w ∈ span C
  | [], C, h, w, hw => by
    rw [mem_span_nil.mp hw]
    exact zero_mem_span C
  | b :: B, C, h, w, hw => by
    have hB : ∀ c ∈ B, c ∈ span C := fun c hc => h c (List.mem_cons_of_mem _ hc)
    rcases mem_span_cons.mp hw with q | q
    · exact span_sub hB q
    · have := xor_mem_span (span_sub hB q) (h b List.mem_cons_self)
      rw [xor_cancel] at this
      exact this
/-- a property of all sums by the words that make them -/
theorem span_ind {B : List Nat} {p : Nat → Prop} (h0 : p 0) (hx : ∀ x y, p x → p y → p (x ^^^ y)) (hb : ∀ b ∈ B, p b) : ∀ {w}, w ∈ span B → p w := by
  induction B with
  | nil =>
    intro w hw
    rw [mem_span_nil.mp hw]
    exact h0
  | cons b B ih =>
    intro w hw
    have ih' := fun {w} => ih (fun c hc => hb c (List.mem_cons_of_mem _ hc)) (w := w)
    rcases mem_span_cons.mp hw with q | q
    · exact ih' q
    · have := hx _ _ (ih' q) (hb b List.mem_cons_self)
      rw [xor_cancel] at this
      exact this
theorem span_lt {B : List Nat} {n : Nat} (h : ∀ b ∈ B, b < 2 ^ n) : ∀ {w}, w ∈ span B → w < 2 ^ n :=
  span_ind (p := fun w => w < 2 ^ n) (Nat.two_pow_pos n) (fun _ _ a b => Nat.xor_lt_two_pow a b) h
theorem span_perm {B C : List Nat} (h : B.Perm C) {w : Nat} : w ∈ span B ↔ w ∈ span C :=
  ⟨span_sub fun b hb => mem_span_of_mem (h.mem_iff.mp hb), span_sub fun b hb => mem_span_of_mem (h.mem_iff.mpr hb)⟩

/-! plain bases -/
abbrev Apart (b c : Nat) : Prop := b.testBit c.log2 = false ∧ c.testBit b.log2 = false
def Plain (B : List Nat) : Prop := (∀ b ∈ B, b ≠ 0) ∧ B.Pairwise fun b c => c < b ∧ Apart b c
theorem Plain.nil : Plain [] := ⟨fun _ h => (nomatch h), List.Pairwise.nil⟩
theorem Plain.tail {b : Nat} {B : List Nat} (h : Plain (b :: B)) : Plain B := ⟨fun c hc => h.1 c (List.mem_cons_of_mem _ hc), (List.pairwise_cons.mp h.2).2⟩
theorem Plain.head {b c : Nat} {B : List Nat} (h : Plain (b :: B)) (hc : c ∈ B) : c < b ∧ Apart b c := (List.pairwise_cons.mp h.2).1 c hc
theorem Plain.ne {b : Nat} {B : List Nat} (h : Plain B) (hb : b ∈ B) : b ≠ 0 := h.1 b hb
theorem Plain.apart {B : List Nat} (h : Plain B) {b c : Nat} (hb : b ∈ B) (hc : c ∈ B) (ne : b ≠ c) : Apart b c := by
  induction B with
  | nil => cases hb
  | cons d B ih =>
    rcases List.mem_cons.mp hb with rfl | hb'
    · rcases List.mem_cons.mp hc with rfl | hc'
      · exact absurd rfl ne
      · exact (h.head hc').2
    · rcases List.mem_cons.mp hc with rfl | hc'
      · exact ⟨(h.head hb').2.2, (h.head hb').2.1⟩
      · exact ih h.tail hb' hc'
theorem Plain.nodup {B : List Nat} (h : Plain B) : B.Nodup := h.2.imp fun h => Nat.ne_of_gt h.1
theorem Plain.filter {B : List Nat} (h : Plain B) (p : Nat → Bool) : Plain (B.filter p) := ⟨fun b hb => h.1 b (List.mem_filter.mp hb).1, h.2.filter p⟩
/-- sorted falling, words apart from one another -/
theorem Plain.of {B : List Nat} (h0 : ∀ b ∈ B, b ≠ 0) (hs : B.Pairwise fun b c => c ≤ b) (ha : B.Pairwise Apart) : Plain B := by
  refine ⟨h0, ?_⟩
  have h := hs.and ha
  refine List.Pairwise.imp_of_mem ?_ h
  intro b c hb hc ⟨h1, h2⟩
  refine ⟨Nat.lt_of_le_of_ne h1 ?_, h2⟩
  rintro rfl
  have := h2.1
  rw [log2_bit (h0 _ hb)] at this
  cases this

def leftOf (B : List Nat) (w : Nat) : Nat := B.foldl (fun w b => min w (w ^^^ b)) w
theorem leftOf_cons (b : Nat) (B : List Nat) (w : Nat) : leftOf (b :: B) w = leftOf B (min w (w ^^^ b)) := rfl
theorem min_xor_or (w b : Nat) : min w (w ^^^ b) = w ∨ min w (w ^^^ b) = w ^^^ b := by
  rcases Nat.le_total w (w ^^^ b) with h | h
  · exact .inl (Nat.min_eq_left h)
  · exact .inr (Nat.min_eq_right h)
theorem leftOf_mem : ∀ (B : List Nat) (w : Nat), leftOf B w ^^^ w ∈ span B
  | [], w => by
    rw [mem_span_nil]
    exact Nat.xor_self w
  | b :: B, w => by
    rw [leftOf_cons, mem_span_cons]
    rcases min_xor_or w b with e | e
    · rw [e]
      exact .inl (leftOf_mem B w)
    · refine .inr ?_
      have := leftOf_mem B (w ^^^ b)
      rw [e, Nat.xor_assoc]
      exact this
/-- bits that no word has stay -/
theorem leftOf_bit : ∀ {B : List Nat} {i : Nat} (w : Nat), (∀ b ∈ B, b.testBit i = false) → (leftOf B w).testBit i = w.testBit i
  | [], i, w, h => rfl
  | b :: B, i, w, h => by
    rw [leftOf_cons, leftOf_bit _ fun c hc => h c (List.mem_cons_of_mem _ hc)]
    rcases min_xor_or w b with e | e
    · rw [e]
    · rw [e, Nat.testBit_xor, h b List.mem_cons_self, Bool.xor_false]
theorem leftOf_off : ∀ {B : List Nat} (w : Nat), Plain B → ∀ b ∈ B, (leftOf B w).testBit b.log2 = false
  | c :: B, w, h, b, hb => by
    rw [leftOf_cons]
    rcases List.mem_cons.mp hb with rfl | hb'
    · rw [leftOf_bit _ fun d hd => (h.head hd).2.2, min_xor (h.ne List.mem_cons_self)]
      split
      · rename_i q
        rw [Nat.testBit_xor, q, log2_bit (h.ne List.mem_cons_self)]
        rfl
      · rename_i q
        exact Bool.eq_false_iff.mpr q
    · exact leftOf_off _ h.tail b hb'
/-- a sum that is off at all highest places is 0 -/
theorem Plain.zero : ∀ {B : List Nat} {x : Nat}, Plain B → x ∈ span B → (∀ b ∈ B, x.testBit b.log2 = false) → x = 0
  | [], x, h, hx, ho => mem_span_nil.mp hx
  | b :: B, x, h, hx, ho => by
    rcases mem_span_cons.mp hx with q | q
    · exact h.tail.zero q fun c hc => ho c (List.mem_cons_of_mem _ hc)
    · have e : (x ^^^ b).testBit b.log2 = false := span_ind (p := fun w => w.testBit b.log2 = false) (Nat.zero_testBit _) (fun x y a c => by rw [Nat.testBit_xor, a, c]; rfl) (fun c hc => (h.head hc).2.2) q
      rw [Nat.testBit_xor, log2_bit (h.ne List.mem_cons_self), ho b List.mem_cons_self] at e
      cases e
theorem leftOf_zero {B : List Nat} {w : Nat} (h : Plain B) : leftOf B w = 0 ↔ w ∈ span B := by
  constructor
  · intro e
    have := leftOf_mem B w
    rw [e, Nat.zero_xor] at this
    exact this
  · intro hw
    have := xor_mem_span (leftOf_mem B w) hw
    rw [xor_cancel] at this
    exact h.zero this (leftOf_off w h)
/-- sums of a plain basis, no two alike -/
theorem Plain.span_nodup : ∀ {B : List Nat}, Plain B → (span B).Nodup
  | [], _ => by simp [span]
  | b :: B, h => by
    rw [span]
    have off : ∀ x ∈ span B, x.testBit b.log2 = false := fun x hx => span_ind (p := fun w => w.testBit b.log2 = false) (Nat.zero_testBit _) (fun x y a c => by rw [Nat.testBit_xor, a, c]; rfl) (fun c hc => (h.head hc).2.2) hx
    rw [List.nodup_append]
    refine ⟨h.tail.span_nodup, ?_, ?_⟩
    · refine List.Pairwise.map _ (fun x y hxy e => hxy ?_) h.tail.span_nodup
      have := congrArg (· ^^^ b) e
      simpa [xor_cancel] using this
    · intro x hx y hy e
      obtain ⟨z, hz, rfl⟩ := List.mem_map.mp hy
      have h1 := off x hx
      rw [e, Nat.testBit_xor, off z hz, log2_bit (h.ne List.mem_cons_self)] at h1
      cases h1
theorem Plain.length_le {B C : List Nat} (h : Plain B) (hs : ∀ b ∈ B, b ∈ span C) : B.length ≤ C.length := by
  have := h.span_nodup.length_le_of_subset (l₂ := span C) fun w hw => span_sub hs hw
  rw [length_span, length_span] at this
  exact (Nat.pow_le_pow_iff_right (by decide)).mp this
/-- the plain basis is single -/
theorem Plain.single : ∀ {B C : List Nat}, Plain B → Plain C → (∀ w, w ∈ span B ↔ w ∈ span C) → B = C := by
  have key : ∀ {B C : List Nat}, Plain B → Plain C → (∀ w, w ∈ span B ↔ w ∈ span C) → ∀ b ∈ B, b ∈ C := by
    intro B C hB hC hs b hb
    have hbC : b ∈ span C := (hs b).mp (mem_span_of_mem hb)
    -- highs of both agree
    have highs : ∀ {B C : List Nat}, Plain B → Plain C → (∀ w, w ∈ span B ↔ w ∈ span C) → ∀ b ∈ B, ∃ c ∈ C, c.log2 = b.log2 := by
      intro B C hB hC hs b hb
      have hbC : b ∈ span C := (hs b).mp (mem_span_of_mem hb)
      refine Classical.byContradiction fun hn => ?_
      have hn' : ∀ c ∈ C, c.log2 ≠ b.log2 := fun c hc e => hn ⟨c, hc, e⟩
      -- b is a sum of words of C below
      have below : ∀ {C : List Nat} {x : Nat}, Plain C → x ∈ span C → x ≠ 0 → ∃ c ∈ C, c.log2 = x.log2 := by
        intro C
        induction C with
        | nil =>
          intro x _ hx hx0
          exact absurd (mem_span_nil.mp hx) hx0
        | cons c C ih =>
          intro x hC hx hx0
          rcases mem_span_cons.mp hx with q | q
          · obtain ⟨d, hd, e⟩ := ih hC.tail q hx0
            exact ⟨d, List.mem_cons_of_mem _ hd, e⟩
          · refine ⟨c, List.mem_cons_self, ?_⟩
            have hlt : ∀ d ∈ C, d < 2 ^ c.log2 := fun d hd => by
              have h1 := (hC.head hd)
              have hd0 := hC.tail.ne hd
              rw [← Nat.log2_lt hd0]
              have h2 : d.log2 ≤ c.log2 := by
                refine Nat.le_of_not_lt fun q => ?_
                have h3 := (Nat.log2_lt (hC.ne List.mem_cons_self)).mp q
                have h4 : 2 ^ d.log2 ≤ d := Nat.log2_self_le hd0
                omega
              refine Nat.lt_of_le_of_ne h2 fun e => ?_
              have := h1.2.2
              rw [← e, log2_bit hd0] at this
              cases this
            have hy := span_lt hlt q
            have e : x = (x ^^^ c) ^^^ c := (xor_cancel x c).symm
            symm
            refine log2_eq ?_ fun j hj => ?_
            · rw [e, Nat.testBit_xor, Nat.testBit_lt_two_pow hy, log2_bit (hC.ne List.mem_cons_self)]
              rfl
            · rw [e, Nat.testBit_xor, above_log2 hj, Nat.testBit_lt_two_pow (Nat.lt_of_lt_of_le hy (Nat.pow_le_pow_right (by decide) (Nat.le_of_lt hj)))]
              rfl
      obtain ⟨c, hc, e⟩ := below hC hbC (hB.ne hb)
      exact hn' c hc e
    obtain ⟨c, hc, e⟩ := highs hB hC hs b hb
    have z : b ^^^ c = 0 := by
      refine hB.zero (xor_mem_span (mem_span_of_mem hb) ((hs c).mpr (mem_span_of_mem hc))) fun d hd => ?_
      rw [Nat.testBit_xor]
      by_cases hdb : d = b
      · subst hdb
        rw [← e, log2_bit (hC.ne hc), e, log2_bit (hB.ne hd)]
        rfl
      · obtain ⟨c', hc', e'⟩ := highs hB hC hs d hd
        have hcc : c ≠ c' := by
          rintro rfl
          have h1 := (hB.apart hd hb hdb).1
          rw [← e, e', log2_bit (hB.ne hd)] at h1
          cases h1
        rw [(hB.apart hb hd (Ne.symm hdb)).1, ← e', (hC.apart hc hc' hcc).1]
        rfl
    rw [xor_eq_zero.mp z]
    exact hc
  intro B C hB hC hs
  have h1 := key hB hC hs
  have h2 := key hC hB fun w => (hs w).symm
  have hp : B.Perm C := (List.perm_ext_iff_of_nodup hB.nodup hC.nodup).mpr fun a => ⟨h1 a, h2 a⟩
  exact hp.eq_of_pairwise (le := fun b c => c ≤ b) (fun a b _ _ h1 h2 => Nat.le_antisymm h2 h1) (hB.2.imp fun h => Nat.le_of_lt h.1) (hC.2.imp fun h => Nat.le_of_lt h.1)
end Ow
namespace Ow
/-! sorting numbers -/
def upN (l : List Nat) : List Nat := l.mergeSort fun a b => decide (a ≤ b)
def downN (l : List Nat) : List Nat := l.mergeSort fun a b => decide (b ≤ a)
theorem upN_perm (l : List Nat) : (upN l).Perm l := List.mergeSort_perm _ _
theorem downN_perm (l : List Nat) : (downN l).Perm l := List.mergeSort_perm _ _
theorem upN_sorted (l : List Nat) : (upN l).Pairwise fun a b => a ≤ b := by
  have := List.pairwise_mergeSort (le := fun a b : Nat => decide (a ≤ b)) (by intro a b c; simp; omega) (by intro a b; simp; omega) l
  exact this.imp fun h => of_decide_eq_true h
theorem downN_sorted (l : List Nat) : (downN l).Pairwise fun a b => b ≤ a := by
  have := List.pairwise_mergeSort (le := fun a b : Nat => decide (b ≤ a)) (by intro a b c; simp; omega) (by intro a b; simp; omega) l
  exact this.imp fun h => of_decide_eq_true h
theorem up_single {l m : List Nat} (h : l.Perm m) (hl : l.Pairwise fun a b => a ≤ b) (hm : m.Pairwise fun a b => a ≤ b) : l = m :=
  h.eq_of_pairwise (fun a b _ _ => Nat.le_antisymm) hl hm
theorem down_single {l m : List Nat} (h : l.Perm m) (hl : l.Pairwise fun a b => b ≤ a) (hm : m.Pairwise fun a b => b ≤ a) : l = m :=
  h.eq_of_pairwise (fun a b _ _ h1 h2 => Nat.le_antisymm h2 h1) hl hm
theorem upN_of {l m : List Nat} (h : l.Perm m) (hl : l.Pairwise fun a b => a ≤ b) : l = upN m := up_single (h.trans (upN_perm m).symm) hl (upN_sorted m)
theorem downN_of {l m : List Nat} (h : l.Perm m) (hl : l.Pairwise fun a b => b ≤ a) : l = downN m := down_single (h.trans (downN_perm m).symm) hl (downN_sorted m)
theorem upN_congr {l m : List Nat} : upN l = upN m ↔ l.Perm m :=
  ⟨fun e => (upN_perm l).symm.trans (e ▸ upN_perm m), fun h => up_single ((upN_perm l).trans (h.trans (upN_perm m).symm)) (upN_sorted l) (upN_sorted m)⟩
theorem upN_length (l : List Nat) : (upN l).length = l.length := (upN_perm l).length_eq
theorem downN_length (l : List Nat) : (downN l).length = l.length := (downN_perm l).length_eq

/-! a word more -/
def withWord (B : List Nat) (w : Nat) : List Nat :=
  if leftOf B w = 0 then B else downN ((B.map fun b => min b (b ^^^ leftOf B w)) ++ [leftOf B w])
def plainBasis (ws : List Nat) : List Nat := ws.foldl withWord []
theorem withWord_of_mem {B : List Nat} {w : Nat} (h : Plain B) (hw : w ∈ span B) : withWord B w = B := by
  unfold withWord
  rw [if_pos ((leftOf_zero h).mpr hw)]
theorem withWord_length {B : List Nat} {w : Nat} (h : Plain B) (hw : w ∉ span B) : (withWord B w).length = B.length + 1 := by
  unfold withWord
  rw [if_neg fun e => hw ((leftOf_zero h).mp e), downN_length, List.length_append, List.length_map]
  rfl
theorem withWord_le (B : List Nat) (w : Nat) : B.length ≤ (withWord B w).length ∧ (withWord B w).length ≤ B.length + 1 := by
  unfold withWord
  split
  · omega
  · rw [downN_length, List.length_append, List.length_map]
    simp
theorem mem_withWord_span {B : List Nat} {w x : Nat} : x ∈ span (withWord B w) ↔ x ∈ span (w :: B) := by
  unfold withWord
  have hl := leftOf_mem B w
  by_cases e : leftOf B w = 0
  · rw [if_pos e]
    rw [e, Nat.zero_xor] at hl
    exact ⟨span_sub fun b hb => mem_span_of_mem (List.mem_cons_of_mem _ hb), span_sub fun b hb => by
      rcases List.mem_cons.mp hb with rfl | hb
      · exact hl
      · exact mem_span_of_mem hb⟩
  · rw [if_neg e, span_perm (downN_perm _)]
    have lw : leftOf B w ∈ span (w :: B) := mem_span_cons.mpr (.inr hl)
    have wl : w ∈ span ((B.map fun b => min b (b ^^^ leftOf B w)) ++ [leftOf B w]) ∧ ∀ b ∈ B, b ∈ span ((B.map fun b => min b (b ^^^ leftOf B w)) ++ [leftOf B w]) := by
      have l1 : leftOf B w ∈ span ((B.map fun b => min b (b ^^^ leftOf B w)) ++ [leftOf B w]) := mem_span_of_mem (List.mem_append_right _ List.mem_cons_self)
      have hb : ∀ b ∈ B, b ∈ span ((B.map fun b => min b (b ^^^ leftOf B w)) ++ [leftOf B w]) := fun b hb => by
        have h1 : min b (b ^^^ leftOf B w) ∈ span ((B.map fun b => min b (b ^^^ leftOf B w)) ++ [leftOf B w]) := mem_span_of_mem (List.mem_append_left _ (List.mem_map.mpr ⟨b, hb, rfl⟩))
        rcases min_xor_or b (leftOf B w) with q | q
        · rw [q] at h1
          exact h1
        · rw [q] at h1
          have := xor_mem_span h1 l1
          rw [xor_cancel] at this
          exact this
      refine ⟨?_, hb⟩
      have := xor_mem_span l1 (span_sub hb hl)
      rw [xor_cancel_left] at this
      exact this
    constructor
    · refine span_sub fun c hc => ?_
      rcases List.mem_append.mp hc with hc | hc
      · obtain ⟨b, hb, rfl⟩ := List.mem_map.mp hc
        have hb' : b ∈ span (w :: B) := mem_span_of_mem (List.mem_cons_of_mem _ hb)
        rcases min_xor_or b (leftOf B w) with q | q
        · rw [q]
          exact hb'
        · rw [q]
          exact xor_mem_span hb' lw
      · rw [List.mem_singleton.mp hc]
        exact lw
    · refine span_sub fun c hc => ?_
      rcases List.mem_cons.mp hc with rfl | hc
      · exact wl.1
      · exact wl.2 c hc
theorem apart_symm {a b : Nat} (h : Apart a b) : Apart b a := ⟨h.2, h.1⟩
theorem withWord_plain {B : List Nat} {w : Nat} (h : Plain B) : Plain (withWord B w) := by
  unfold withWord
  split
  · exact h
  rename_i l0
  generalize hl : leftOf B w = l at l0
  have off : ∀ b ∈ B, l.testBit b.log2 = false := fun b hb => hl ▸ leftOf_off w h b hb
  -- the changed words
  have key : ∀ b ∈ B, (min b (b ^^^ l)).log2 = b.log2 ∧ min b (b ^^^ l) ≠ 0 ∧ (min b (b ^^^ l)).testBit l.log2 = false := fun b hb => by
    have b0 := h.ne hb
    rw [min_xor l0]
    split
    · rename_i q
      have e1 : (b ^^^ l).testBit b.log2 = true := by rw [Nat.testBit_xor, log2_bit b0, off b hb]; rfl
      refine ⟨log2_eq e1 fun j hj => ?_, ?_, ?_⟩
      · rw [Nat.testBit_xor, above_log2 hj, Bool.false_xor]
        have : l.log2 < b.log2 := by
          rcases Nat.lt_trichotomy l.log2 b.log2 with z | z | z
          · exact z
          · have := off b hb
            rw [← z, log2_bit l0] at this
            cases this
          · rw [above_log2 z] at q
            cases q
        exact above_log2 (Nat.lt_trans this hj)
      · intro e
        rw [e, Nat.zero_testBit] at e1
        cases e1
      · rw [Nat.testBit_xor, q, log2_bit l0]
        rfl
    · rename_i q
      exact ⟨rfl, b0, Bool.eq_false_iff.mpr q⟩
  have bits : ∀ b ∈ B, ∀ c ∈ B, b ≠ c → (min b (b ^^^ l)).testBit c.log2 = false := fun b hb c hc ne => by
    rcases min_xor_or b l with q | q
    · rw [q]
      exact (h.apart hb hc ne).1
    · rw [q, Nat.testBit_xor, (h.apart hb hc ne).1, off c hc]
      rfl
  have ap : ((B.map fun b => min b (b ^^^ l)) ++ [l]).Pairwise Apart := by
    rw [List.pairwise_append]
    refine ⟨?_, List.pairwise_singleton _ _, ?_⟩
    · rw [List.pairwise_map]
      refine List.Pairwise.imp_of_mem ?_ h.nodup
      intro b c hb hc ne
      exact ⟨by rw [(key c hc).1]; exact bits b hb c hc ne, by rw [(key b hb).1]; exact bits c hc b hb (Ne.symm ne)⟩
    · intro x hx y hy
      obtain ⟨b, hb, rfl⟩ := List.mem_map.mp hx
      rw [List.mem_singleton.mp hy]
      exact ⟨(key b hb).2.2, by rw [(key b hb).1]; exact off b hb⟩
  refine Plain.of (fun b hb => ?_) (downN_sorted _) ?_
  · rcases List.mem_append.mp ((downN_perm _).mem_iff.mp hb) with hb | hb
    · obtain ⟨c, hc, rfl⟩ := List.mem_map.mp hb
      exact (key c hc).2.1
    · rw [List.mem_singleton.mp hb]
      exact l0
  · exact (List.Perm.pairwise_iff (fun {x y} h => apart_symm h) (downN_perm _)).mpr ap
theorem foldl_plain : ∀ (ws : List Nat) {B : List Nat}, Plain B → Plain (ws.foldl withWord B)
  | [], _, h => h
  | w :: ws, B, h => foldl_plain ws (withWord_plain h)
theorem plainBasis_plain (ws : List Nat) : Plain (plainBasis ws) := foldl_plain ws Plain.nil
theorem mem_foldl_span : ∀ (ws : List Nat) {B : List Nat} {x : Nat}, x ∈ span (ws.foldl withWord B) ↔ x ∈ span (ws ++ B)
  | [], _, _ => Iff.rfl
  | w :: ws, B, x => by
    rw [List.foldl_cons, mem_foldl_span ws]
    constructor
    · refine span_sub fun b hb => ?_
      rcases List.mem_append.mp hb with hb | hb
      · exact mem_span_of_mem (List.mem_append_left _ (List.mem_cons_of_mem _ hb))
      · refine span_sub (fun c hc => ?_) (mem_withWord_span.mp (mem_span_of_mem hb))
        rcases List.mem_cons.mp hc with rfl | hc
        · exact mem_span_of_mem (List.mem_append_left _ List.mem_cons_self)
        · exact mem_span_of_mem (List.mem_append_right _ hc)
    · refine span_sub fun b hb => ?_
      have up : ∀ c ∈ span (w :: B), c ∈ span (ws ++ withWord B w) := fun c hc => span_sub (fun d hd => mem_span_of_mem (List.mem_append_right _ hd)) (mem_withWord_span.mpr hc)
      rcases List.mem_append.mp hb with hb | hb
      · rcases List.mem_cons.mp hb with rfl | hb
        · exact up _ (mem_span_of_mem List.mem_cons_self)
        · exact mem_span_of_mem (List.mem_append_left _ hb)
      · exact up _ (mem_span_of_mem (List.mem_cons_of_mem _ hb))
theorem mem_plainBasis_span {ws : List Nat} {x : Nat} : x ∈ span (plainBasis ws) ↔ x ∈ span ws := by
  unfold plainBasis
  rw [mem_foldl_span, List.append_nil]
theorem plainBasis_self {B : List Nat} (h : Plain B) : plainBasis B = B := (plainBasis_plain B).single h fun _ => mem_plainBasis_span
theorem plainBasis_lt {ws : List Nat} {n : Nat} (h : ∀ w ∈ ws, w < 2 ^ n) : ∀ b ∈ plainBasis ws, b < 2 ^ n := fun b hb =>
  span_lt h (mem_plainBasis_span.mp (mem_span_of_mem hb))
theorem foldl_length_le : ∀ (ws B : List Nat), (ws.foldl withWord B).length ≤ B.length + ws.length
  | [], B => Nat.le_refl _
  | w :: ws, B => by
    rw [List.foldl_cons]
    have := foldl_length_le ws (withWord B w)
    have := (withWord_le B w).2
    simp only [List.length_cons]
    omega
theorem plainBasis_length_le (ws : List Nat) : (plainBasis ws).length ≤ ws.length := by
  have := foldl_length_le ws []
  simpa [plainBasis] using this
/-- words that make as many sums as they can are a basis: their sums, no two alike -/
theorem indep_nodup {ws : List Nat} (h : (plainBasis ws).length = ws.length) : (span ws).Nodup := by
  have h1 := (plainBasis_plain ws).span_nodup
  have hl : (span (plainBasis ws)).length = (span ws).length := by rw [length_span, length_span, h]
  -- a list as long as a list without repeats that it holds has none
  have key : ∀ {l m : List Nat}, l.Nodup → (∀ x ∈ l, x ∈ m) → m.length ≤ l.length → m.Nodup := by
    intro l
    induction l with
    | nil =>
      intro m _ _ hm
      rw [List.length_eq_zero_iff.mp (Nat.le_zero.mp hm)]
      exact List.Pairwise.nil
    | cons a l ih =>
      intro m hl hs hm
      have ha : a ∈ m := hs a List.mem_cons_self
      have hp : m.Perm (a :: m.erase a) := List.perm_cons_erase ha
      have hn : (m.erase a).Nodup := by
        refine ih (List.nodup_cons.mp hl).2 (fun x hx => ?_) ?_
        · have hxa : x ≠ a := fun e => (List.nodup_cons.mp hl).1 (e ▸ hx)
          exact (List.mem_erase_of_ne hxa).mpr (hs x (List.mem_cons_of_mem _ hx))
        · rw [List.length_erase_of_mem ha]
          simp only [List.length_cons] at hm
          omega
      refine hp.nodup_iff.mpr (List.nodup_cons.mpr ⟨fun h => ?_, hn⟩)
      -- a twice in m: then the others of l lie in m without two a's
      have h2 : l.length ≤ ((m.erase a).erase a).length := by
        refine (List.nodup_cons.mp hl).2.length_le_of_subset fun x hx => ?_
        have hxa : x ≠ a := fun e => (List.nodup_cons.mp hl).1 (e ▸ hx)
        exact (List.mem_erase_of_ne hxa).mpr ((List.mem_erase_of_ne hxa).mpr (hs x (List.mem_cons_of_mem _ hx)))
      rw [List.length_erase_of_mem h, List.length_erase_of_mem ha] at h2
      have : 0 < (m.erase a).length := List.length_pos_of_mem h
      rw [List.length_erase_of_mem ha] at this
      simp only [List.length_cons] at hm
      omega
  exact key h1 (fun x hx => mem_plainBasis_span.mp hx) (by omega)
end Ow
namespace Ow
/-! weights -/
def wt (w : Nat) : Nat := (List.range 24).countP fun p => w.testBit p
def spots (w : Nat) : List Nat := (List.range 24).filter fun p => w.testBit p
theorem spots_length (w : Nat) : (spots w).length = wt w := by
  unfold spots wt
  rw [List.countP_eq_length_filter]
def ev (a b : Nat) : Prop := wt (a &&& b) % 2 = 0
instance (a b : Nat) : Decidable (ev a b) := inferInstanceAs (Decidable (_ = _))
theorem ev_comm {a b : Nat} : ev a b ↔ ev b a := by
  unfold ev
  rw [Nat.and_comm]
theorem countP_xor {α : Type} (p q : α → Bool) : ∀ l : List α, l.countP (fun x => p x ^^ q x) + 2 * l.countP (fun x => p x && q x) = l.countP p + l.countP q
  | [] => rfl
  | a :: l => by
    have ih := countP_xor p q l
    simp only [List.countP_cons]
    cases p a <;> cases q a <;> simp <;> omega
theorem wt_xor (a b : Nat) : wt (a ^^^ b) + 2 * wt (a &&& b) = wt a + wt b := by
  have := countP_xor (fun p => a.testBit p) (fun p => b.testBit p) (List.range 24)
  simp only [wt, Nat.testBit_xor, Nat.testBit_and]
  exact this
theorem wt_zero : wt 0 = 0 := by decide
theorem ev_zero (b : Nat) : ev 0 b := by
  unfold ev
  rw [Nat.zero_and, wt_zero]
theorem ev_xor {a b c : Nat} (h1 : ev a c) (h2 : ev b c) : ev (a ^^^ b) c := by
  unfold ev at *
  rw [Nat.and_xor_distrib_right]
  have := wt_xor (a &&& c) (b &&& c)
  omega
theorem ev_xor_iff {a b c : Nat} : ev (a ^^^ b) c ↔ (ev a c ↔ ev b c) := by
  unfold ev
  rw [Nat.and_xor_distrib_right]
  have := wt_xor (a &&& c) (b &&& c)
  omega
theorem ev_span {B : List Nat} {c : Nat} (h : ∀ b ∈ B, ev b c) : ∀ {w}, w ∈ span B → ev w c :=
  span_ind (p := fun w => ev w c) (ev_zero c) (fun _ _ => ev_xor) h
def Still (B : List Nat) : Prop := ∀ b ∈ B, ∀ c ∈ B, ev b c
theorem Still.span {B : List Nat} (h : Still B) {x y : Nat} (hx : x ∈ span B) (hy : y ∈ span B) : ev x y :=
  ev_span (fun b hb => ev_comm.mpr (ev_span (fun c hc => h c hc b hb) hy)) hx
theorem Still.of_span {B C : List Nat} (h : Still C) (hs : ∀ b ∈ B, b ∈ Ow.span C) : Still B := fun b hb c hc => h.span (hs b hb) (hs c hc)

/-! places as words -/
def wordOf (ps : List Nat) : Nat := (ps.map fun p => 2 ^ p).sum
theorem testBit_pow_add {a S : Nat} (h : S.testBit a = false) (j : Nat) : (2 ^ a + S).testBit j = (decide (j = a) || S.testBit j) := by
  rcases Nat.lt_trichotomy j a with q | q | q
  · rw [Nat.testBit_two_pow_add_gt q, decide_eq_false (Nat.ne_of_lt q), Bool.false_or]
  · subst q
    rw [Nat.testBit_two_pow_add_eq, h, decide_eq_true rfl]
    rfl
  · rw [decide_eq_false (Nat.ne_of_gt q), Bool.false_or]
    obtain ⟨k, rfl⟩ : ∃ k, j = k + (a + 1) := ⟨j - (a + 1), by omega⟩
    rw [Nat.testBit_add, Nat.testBit_add]
    have h' := (Nat.testBit_eq_decide_div_mod_eq (x := S) (i := a)).symm.trans h
    have h2 : S / 2 ^ a % 2 ≠ 1 := of_decide_eq_false h'
    have e : (2 ^ a + S) / 2 ^ a = S / 2 ^ a + 1 := by
      rw [Nat.add_comm, Nat.add_div_right _ (Nat.two_pow_pos a)]
    have e1 : (2 ^ a + S) / 2 ^ (a + 1) = (2 ^ a + S) / 2 ^ a / 2 := by rw [Nat.pow_succ, Nat.div_div_eq_div_mul]
    have e2 : S / 2 ^ (a + 1) = S / 2 ^ a / 2 := by rw [Nat.pow_succ, Nat.div_div_eq_div_mul]
    rw [e1, e2, e]
    congr 1
    omega
theorem wordOf_bit : ∀ {ps : List Nat}, ps.Nodup → ∀ q, (wordOf ps).testBit q = decide (q ∈ ps)
  | [], _, q => by
    show (0 : Nat).testBit q = _
    rw [Nat.zero_testBit]
    rfl
  | p :: ps, h, q => by
    have hn := List.nodup_cons.mp h
    have ih := wordOf_bit hn.2
    have h0 : (wordOf ps).testBit p = false := by
      rw [ih]
      exact decide_eq_false hn.1
    show (2 ^ p + wordOf ps).testBit q = _
    rw [testBit_pow_add h0, ih]
    by_cases e : q = p
    · subst e
      simp
    · simp [e]
theorem wordOf_lt {ps : List Nat} {n : Nat} (hn : ps.Nodup) (h : ∀ p ∈ ps, p < n) : wordOf ps < 2 ^ n :=
  Nat.lt_pow_two_of_testBit _ fun i hi => by
    rw [wordOf_bit hn]
    exact decide_eq_false fun hm => absurd (h i hm) (by omega)
theorem countP_mem {ps : List Nat} {N : Nat} (hn : ps.Nodup) (h : ∀ p ∈ ps, p < N) (f : Nat → Bool) : (List.range N).countP (fun q => decide (q ∈ ps) && f q) = ps.countP f := by
  have hp : ((List.range N).filter fun q => decide (q ∈ ps)).Perm ps := by
    refine (List.perm_ext_iff_of_nodup (List.Pairwise.filter _ List.nodup_range) hn).mpr fun a => ?_
    rw [List.mem_filter, List.mem_range]
    constructor
    · intro z
      exact of_decide_eq_true z.2
    · intro z
      exact ⟨h a z, decide_eq_true z⟩
  rw [← hp.countP_eq, List.countP_filter]
  congr 1
  funext q
  rw [Bool.and_comm]
theorem wt_wordOf_and {ps : List Nat} (hn : ps.Nodup) (h : ∀ p ∈ ps, p < 24) (b : Nat) : wt (wordOf ps &&& b) = ps.countP fun q => b.testBit q := by
  unfold wt
  rw [← countP_mem hn h]
  congr 1
  funext q
  rw [Nat.testBit_and, wordOf_bit hn]
theorem and_allOn {w n : Nat} (h : w < 2 ^ n) : w &&& (2 ^ n - 1) = w := Nat.and_two_pow_sub_one_of_lt_two_pow h
theorem wt_eq {w n : Nat} (h : w < 2 ^ n) (hn : n ≤ 24) : wt w = (List.range n).countP fun p => w.testBit p := by
  unfold wt
  obtain ⟨k, hk⟩ : ∃ k, 24 = n + k := ⟨24 - n, by omega⟩
  rw [hk, List.range_add, List.countP_append]
  have z : (List.map (fun x => n + x) (List.range k)).countP (fun p => w.testBit p) = 0 := by
    rw [List.countP_eq_zero]
    intro p hp
    obtain ⟨j, _, rfl⟩ := List.mem_map.mp hp
    rw [Nat.testBit_lt_two_pow (Nat.lt_of_lt_of_le h (Nat.pow_le_pow_right (by decide) (by omega)))]
    simp
  rw [z, Nat.add_zero]
theorem wt_allOn {n : Nat} (hn : n ≤ 24) : wt (2 ^ n - 1) = n := by
  rw [wt_eq (n := n) (Nat.sub_lt (Nat.two_pow_pos n) (by decide)) hn]
  have : (List.range n).countP (fun p => (2 ^ n - 1).testBit p) = (List.range n).length := by
    rw [List.countP_eq_length]
    intro p hp
    rw [Nat.testBit_two_pow_sub_one]
    exact decide_eq_true (List.mem_range.mp hp)
  rw [this, List.length_range]

/-! the contrary -/
def freeOf (n : Nat) (B : List Nat) : List Nat := (List.range n).filter fun p => decide (p ∉ B.map fun b => b.log2)
def conWord (B : List Nat) (p : Nat) : Nat := ((B.filter fun b => b.testBit p).map fun b => 2 ^ b.log2).sum + 2 ^ p
def conWords (n : Nat) (B : List Nat) : List Nat := (freeOf n B).map (conWord B)
def contraryBasis (n : Nat) (B : List Nat) : List Nat := plainBasis (conWords n B)
def missingWord (n : Nat) (B : List Nat) : Option Nat := (contraryBasis n B).find? fun w => leftOf B w != 0
def conSpots (B : List Nat) (p : Nat) : List Nat := p :: (B.filter fun b => b.testBit p).map fun b => b.log2
theorem conWord_eq (B : List Nat) (p : Nat) : conWord B p = wordOf (conSpots B p) := by
  unfold conWord wordOf conSpots
  rw [List.map_cons, List.sum_cons, Nat.add_comm, List.map_map]
  rfl
theorem Plain.logs_nodup {B : List Nat} (h : Plain B) : (B.map fun b => b.log2).Nodup := by
  unfold List.Nodup
  rw [List.pairwise_map]
  refine List.Pairwise.imp_of_mem ?_ h.2
  intro b c hb hc hbc e
  have := hbc.2.1
  rw [← e, log2_bit (h.ne hb)] at this
  cases this
theorem Plain.log_lt {B : List Nat} (h : Plain B) {n : Nat} (hl : ∀ b ∈ B, b < 2 ^ n) {b : Nat} (hb : b ∈ B) : b.log2 < n := (Nat.log2_lt (h.ne hb)).mpr (hl b hb)
theorem Plain.bit_log {B : List Nat} (h : Plain B) {b c : Nat} (hb : b ∈ B) (hc : c ∈ B) : b.testBit c.log2 = decide (b = c) := by
  by_cases e : b = c
  · subst e
    rw [log2_bit (h.ne hb), decide_eq_true rfl]
  · rw [(h.apart hb hc e).1, decide_eq_false e]
theorem conSpots_nodup {n : Nat} {B : List Nat} (h : Plain B) {p : Nat} (hp : p ∈ freeOf n B) : (conSpots B p).Nodup := by
  refine List.nodup_cons.mpr ⟨fun hm => ?_, (h.filter _).logs_nodup⟩
  obtain ⟨b, hb, e⟩ := List.mem_map.mp hm
  exact of_decide_eq_true (List.mem_filter.mp hp).2 (List.mem_map.mpr ⟨b, (List.mem_filter.mp hb).1, e⟩)
theorem conSpots_lt {n : Nat} {B : List Nat} (h : Plain B) (hl : ∀ b ∈ B, b < 2 ^ n) {p : Nat} (hp : p ∈ freeOf n B) : ∀ q ∈ conSpots B p, q < n := by
  intro q hq
  rcases List.mem_cons.mp hq with rfl | hq
  · exact List.mem_range.mp (List.mem_filter.mp hp).1
  · obtain ⟨b, hb, rfl⟩ := List.mem_map.mp hq
    exact h.log_lt hl (List.mem_filter.mp hb).1
theorem conWord_lt {n : Nat} {B : List Nat} (h : Plain B) (hl : ∀ b ∈ B, b < 2 ^ n) {p : Nat} (hp : p ∈ freeOf n B) : conWord B p < 2 ^ n := by
  rw [conWord_eq]
  exact wordOf_lt (conSpots_nodup h hp) (conSpots_lt h hl hp)
/-- at the free places the words are units -/
theorem conWord_free {n : Nat} {B : List Nat} (h : Plain B) {p q : Nat} (hp : p ∈ freeOf n B) (hq : q ∈ freeOf n B) : (conWord B p).testBit q = decide (q = p) := by
  rw [conWord_eq, wordOf_bit (conSpots_nodup h hp)]
  have : q ∈ conSpots B p ↔ q = p := by
    constructor
    · intro z
      rcases List.mem_cons.mp z with z | z
      · exact z
      · obtain ⟨b, hb, e⟩ := List.mem_map.mp z
        exact absurd (List.mem_map.mpr ⟨b, (List.mem_filter.mp hb).1, e⟩) (of_decide_eq_true (List.mem_filter.mp hq).2)
    · rintro rfl
      exact List.mem_cons_self
  simp only [this]
theorem conWord_ev {n : Nat} {B : List Nat} (h : Plain B) (hl : ∀ b ∈ B, b < 2 ^ n) (hn : n ≤ 24) {p : Nat} (hp : p ∈ freeOf n B) {b : Nat} (hb : b ∈ B) : ev (conWord B p) b := by
  unfold ev
  rw [conWord_eq, wt_wordOf_and (conSpots_nodup h hp) fun q hq => Nat.lt_of_lt_of_le (conSpots_lt h hl hp q hq) hn]
  unfold conSpots
  rw [List.countP_cons, List.countP_map, List.countP_filter]
  have e : B.countP (fun a => (((fun q => b.testBit q) ∘ fun b => b.log2) a) && a.testBit p) = if b.testBit p then 1 else 0 := by
    have e2 : B.countP (fun a => (((fun q => b.testBit q) ∘ fun b => b.log2) a) && a.testBit p) = B.countP fun a => (a == b) && b.testBit p := by
      refine List.countP_congr fun a ha => ?_
      show (b.testBit a.log2 && a.testBit p) = true ↔ _
      rw [h.bit_log hb ha]
      by_cases z : b = a
      · subst z
        simp
      · have z' : ¬ a = b := fun q => z q.symm
        simp [z, z']
    rw [e2]
    cases b.testBit p
    · simp
    · simp only [Bool.and_true, if_true]
      have := h.nodup.count (a := b)
      rw [if_pos hb] at this
      unfold List.count at this
      exact this
  rw [e]
  split <;> simp_all
theorem free_length {n : Nat} {B : List Nat} (h : Plain B) (hl : ∀ b ∈ B, b < 2 ^ n) : (freeOf n B).length + B.length = n := by
  have hp : ((List.range n).filter fun p => decide (p ∈ B.map fun b => b.log2)).Perm (B.map fun b => b.log2) := by
    refine (List.perm_ext_iff_of_nodup (List.Pairwise.filter _ List.nodup_range) h.logs_nodup).mpr fun a => ?_
    rw [List.mem_filter, List.mem_range]
    constructor
    · intro z
      exact of_decide_eq_true z.2
    · intro z
      refine ⟨?_, decide_eq_true z⟩
      obtain ⟨b, hb, rfl⟩ := List.mem_map.mp z
      exact h.log_lt hl hb
  have h1 := hp.length_eq
  rw [List.length_map] at h1
  have h2 := List.length_eq_countP_add_countP (fun p => decide (p ∈ B.map fun b => b.log2)) (l := List.range n)
  rw [List.countP_eq_length_filter, List.countP_eq_length_filter, h1, List.length_range] at h2
  unfold freeOf
  have e : ((List.range n).filter fun p => decide (p ∉ B.map fun b => b.log2)) = (List.range n).filter fun a => decide ¬decide (a ∈ List.map (fun b => b.log2) B) = true := by
    congr 1
    funext a
    simp
  rw [e]
  omega
theorem foldl_units {v : Nat → Nat} : ∀ (ps : List Nat) {B : List Nat}, Plain B → ps.Nodup → (∀ p ∈ ps, ∀ q ∈ ps, (v p).testBit q = decide (q = p)) → (∀ b ∈ B, ∀ p ∈ ps, b.testBit p = false) → ((ps.map v).foldl withWord B).length = B.length + ps.length
  | [], B, _, _, _, _ => rfl
  | p :: ps, B, h, hn, hv, hb => by
    have off : ∀ q ∈ p :: ps, ∀ x ∈ span B, x.testBit q = false := fun q hq x hx =>
      span_ind (p := fun w => w.testBit q = false) (Nat.zero_testBit _) (fun x y a c => by rw [Nat.testBit_xor, a, c]; rfl) (fun c hc => hb c hc q hq) hx
    have nin : v p ∉ span B := fun hx => by
      have := off p List.mem_cons_self _ hx
      rw [hv p List.mem_cons_self p List.mem_cons_self, decide_eq_true rfl] at this
      cases this
    rw [List.map_cons, List.foldl_cons, foldl_units ps (withWord_plain h) (List.nodup_cons.mp hn).2 (fun a ha b hb => hv a (List.mem_cons_of_mem _ ha) b (List.mem_cons_of_mem _ hb)) ?_, withWord_length h nin, List.length_cons]
    · omega
    · intro b hb' q hq
      have hq' : q ∈ p :: ps := List.mem_cons_of_mem _ hq
      have hx := mem_withWord_span.mp (mem_span_of_mem hb')
      have hqp : q ≠ p := fun e => (List.nodup_cons.mp hn).1 (e ▸ hq)
      rcases mem_span_cons.mp hx with z | z
      · exact off q hq' _ z
      · have := off q hq' _ z
        rw [Nat.testBit_xor, hv p List.mem_cons_self q hq', decide_eq_false hqp, Bool.xor_false] at this
        exact this
theorem free_nodup (n : Nat) (B : List Nat) : (freeOf n B).Nodup := List.Pairwise.filter _ List.nodup_range
theorem contrary_length {n : Nat} {B : List Nat} (h : Plain B) (hl : ∀ b ∈ B, b < 2 ^ n) : (contraryBasis n B).length + B.length = n := by
  unfold contraryBasis plainBasis conWords
  rw [foldl_units _ Plain.nil (free_nodup n B) (fun p hp q hq => conWord_free h hp hq) (fun b hb => nomatch hb)]
  have := free_length h hl
  simp only [List.length_nil]
  omega
theorem contrary_ev {n : Nat} {B : List Nat} (h : Plain B) (hl : ∀ b ∈ B, b < 2 ^ n) (hn : n ≤ 24) {w b : Nat} (hw : w ∈ span (contraryBasis n B)) (hb : b ∈ B) : ev w b := by
  refine ev_span (fun c hc => ?_) (mem_plainBasis_span.mp hw)
  obtain ⟨p, hp, rfl⟩ := List.mem_map.mp hc
  exact conWord_ev h hl hn hp hb
theorem contrary_lt {n : Nat} {B : List Nat} (h : Plain B) (hl : ∀ b ∈ B, b < 2 ^ n) : ∀ w ∈ contraryBasis n B, w < 2 ^ n :=
  plainBasis_lt fun w hw => by
    obtain ⟨p, hp, rfl⟩ := List.mem_map.mp hw
    exact conWord_lt h hl hp
theorem ev_pow {p : Nat} (hp : p < 24) (b : Nat) : ev (2 ^ p) b ↔ b.testBit p = false := by
  have e : 2 ^ p = wordOf [p] := by simp [wordOf]
  unfold ev
  rw [e, wt_wordOf_and (by simp) (by simpa using hp), List.countP_cons, List.countP_nil]
  cases b.testBit p <;> simp
/-- each word even to all is in the contrary -/
theorem mem_contrary {n : Nat} {B : List Nat} (h : Plain B) (hl : ∀ b ∈ B, b < 2 ^ n) (hn : n ≤ 24) {w : Nat} (hw : w < 2 ^ n) (he : ∀ b ∈ B, ev w b) : w ∈ span (contraryBasis n B) := by
  -- take off the unit of each free place
  have take : ∀ (ps : List Nat) (x : Nat), ps.Nodup → (∀ p ∈ ps, p ∈ freeOf n B) → ∃ u ∈ span (conWords n B), (∀ p ∈ ps, (x ^^^ u).testBit p = false) ∧ ∀ q ∈ freeOf n B, q ∉ ps → (x ^^^ u).testBit q = x.testBit q := by
    intro ps
    induction ps with
    | nil =>
      intro x _ _
      exact ⟨0, zero_mem_span _, (fun p hp => nomatch hp), fun q _ _ => by rw [Nat.xor_zero]⟩
    | cons p ps ih =>
      intro x hnd hf
      obtain ⟨u, hu, h1, h2⟩ := ih x (List.nodup_cons.mp hnd).2 fun q hq => hf q (List.mem_cons_of_mem _ hq)
      have hp := hf p List.mem_cons_self
      have hnp := (List.nodup_cons.mp hnd).1
      have cu : conWord B p ∈ span (conWords n B) := mem_span_of_mem (List.mem_map.mpr ⟨p, hp, rfl⟩)
      cases e : x.testBit p with
      | false =>
        refine ⟨u, hu, fun q hq => ?_, fun q hq hq2 => h2 q hq fun z => hq2 (List.mem_cons_of_mem _ z)⟩
        rcases List.mem_cons.mp hq with rfl | hq
        · rw [h2 _ hp hnp, e]
        · exact h1 q hq
      | true =>
        refine ⟨u ^^^ conWord B p, xor_mem_span hu cu, fun q hq => ?_, fun q hq hq2 => ?_⟩
        · have hqf : q ∈ freeOf n B := hf q hq
          rw [← Nat.xor_assoc, Nat.testBit_xor, conWord_free h hp hqf]
          rcases List.mem_cons.mp hq with rfl | hq
          · rw [h2 _ hp hnp, e, decide_eq_true rfl]
            rfl
          · rw [h1 q hq, decide_eq_false fun (z : q = p) => hnp (z ▸ hq)]
            rfl
        · rw [← Nat.xor_assoc, Nat.testBit_xor, conWord_free h hp hq, h2 q hq fun z => hq2 (List.mem_cons_of_mem _ z), decide_eq_false fun (z : q = p) => hq2 (z ▸ List.mem_cons_self), Bool.xor_false]
  obtain ⟨u, hu, h1, _⟩ := take (freeOf n B) w (free_nodup n B) fun p hp => hp
  have hub : ∀ b ∈ B, ev u b := fun b hb => contrary_ev h hl hn (mem_plainBasis_span.mpr hu) hb
  have hult : u < 2 ^ n := span_lt (fun c hc => by
    obtain ⟨p, hp, rfl⟩ := List.mem_map.mp hc
    exact conWord_lt h hl hp) hu
  have hx : ∀ b ∈ B, ev (w ^^^ u) b := fun b hb => ev_xor (he b hb) (hub b hb)
  have hxlt : w ^^^ u < 2 ^ n := Nat.xor_lt_two_pow hw hult
  have z : w ^^^ u = 0 := by
    apply Nat.eq_of_testBit_eq
    intro i
    rw [Nat.zero_testBit]
    by_cases hi : i < n
    · by_cases hf : i ∈ freeOf n B
      · exact h1 i hf
      · have hm : i ∈ B.map fun b => b.log2 := by
          refine Classical.byContradiction fun q => hf ?_
          exact List.mem_filter.mpr ⟨List.mem_range.mpr hi, decide_eq_true q⟩
        obtain ⟨b, hb, rfl⟩ := List.mem_map.mp hm
        -- the places of w ^^^ u are highs; b has of these its own alone
        have e := hx b hb
        cases q : (w ^^^ u).testBit b.log2 with
        | false => rfl
        | true =>
          exfalso
          have e2 : (w ^^^ u) &&& b = 2 ^ b.log2 := by
            apply Nat.eq_of_testBit_eq
            intro j
            rw [Nat.testBit_and, Nat.testBit_two_pow]
            by_cases hj : b.log2 = j
            · subst hj
              rw [q, log2_bit (h.ne hb), decide_eq_true rfl]
              rfl
            · rw [decide_eq_false hj]
              by_cases hjn : j < n
              · by_cases hjf : j ∈ freeOf n B
                · rw [h1 j hjf, Bool.false_and]
                · have hm : j ∈ B.map fun b => b.log2 := by
                    refine Classical.byContradiction fun q => hjf ?_
                    exact List.mem_filter.mpr ⟨List.mem_range.mpr hjn, decide_eq_true q⟩
                  obtain ⟨c, hc, rfl⟩ := List.mem_map.mp hm
                  rw [h.bit_log hb hc, decide_eq_false fun z => hj (by rw [z]), Bool.and_false]
              · rw [Nat.testBit_lt_two_pow (Nat.lt_of_lt_of_le (hl b hb) (Nat.pow_le_pow_right (by decide) (by omega))), Bool.and_false]
          unfold ev at e
          rw [e2] at e
          have hlt : b.log2 < 24 := Nat.lt_of_lt_of_le (h.log_lt hl hb) hn
          have : wt (2 ^ b.log2) = 1 := by
            have e3 : 2 ^ b.log2 = wordOf [b.log2] := by simp [wordOf]
            have := wt_wordOf_and (ps := [b.log2]) (by simp) (by simpa using hlt) (2 ^ b.log2)
            rw [← e3, Nat.and_self, List.countP_cons, List.countP_nil] at this
            simpa [Nat.testBit_two_pow_self] using this
          rw [this] at e
          cases e
    · exact Nat.testBit_lt_two_pow (Nat.lt_of_lt_of_le hxlt (Nat.pow_le_pow_right (by decide) (by omega)))
  rw [xor_eq_zero.mp z]
  exact mem_plainBasis_span.mpr hu
theorem still_half {n : Nat} {B : List Nat} (h : Plain B) (hl : ∀ b ∈ B, b < 2 ^ n) (hn : n ≤ 24) (hs : Still B) : 2 * B.length ≤ n := by
  have h1 := h.length_le (C := contraryBasis n B) fun b hb => mem_contrary h hl hn (hl b hb) fun c hc => hs b hb c hc
  have h2 := contrary_length h hl
  omega
theorem missing_some {n : Nat} {B : List Nat} (h : Plain B) (hl : ∀ b ∈ B, b < 2 ^ n) (hn : 2 * B.length < n) : ∃ w, missingWord n B = some w := by
  unfold missingWord
  cases e : (contraryBasis n B).find? (fun w => leftOf B w != 0) with
  | some w => exact ⟨w, rfl⟩
  | none =>
    exfalso
    rw [List.find?_eq_none] at e
    have := (plainBasis_plain (conWords n B)).length_le (C := B) fun b hb => (leftOf_zero h).mp (by simpa using e b hb)
    have h2 := contrary_length h hl
    unfold contraryBasis at h2
    omega
theorem missing_spec {n : Nat} {B : List Nat} {w : Nat} (h : Plain B) (hl : ∀ b ∈ B, b < 2 ^ n) (hn : n ≤ 24) (e : missingWord n B = some w) : w < 2 ^ n ∧ w ∉ span B ∧ ∀ b ∈ B, ev w b := by
  unfold missingWord at e
  have h1 := List.mem_of_find?_eq_some e
  have h2 := List.find?_some e
  refine ⟨contrary_lt h hl w h1, fun hw => ?_, fun b hb => contrary_ev h hl hn (mem_span_of_mem h1) hb⟩
  rw [(leftOf_zero h).mpr hw] at h2
  cases h2

/-! own rooms -/
structure Own (n : Nat) (B : List Nat) : Prop where
  plain : Plain B
  lt : ∀ b ∈ B, b < 2 ^ n
  half : 2 * B.length = n
  still : Still B
/-- on the way to an own room -/
structure Way (n : Nat) (B : List Nat) : Prop where
  plain : Plain B
  lt : ∀ b ∈ B, b < 2 ^ n
  still : Still B
  all : 2 ^ n - 1 ∈ span B
theorem withWord_lt {n : Nat} {B : List Nat} {w : Nat} (hl : ∀ b ∈ B, b < 2 ^ n) (hw : w < 2 ^ n) : ∀ b ∈ withWord B w, b < 2 ^ n := fun b hb =>
  span_lt (fun c hc => by
    rcases List.mem_cons.mp hc with rfl | hc
    · exact hw
    · exact hl c hc) (mem_withWord_span.mp (mem_span_of_mem hb))
theorem withWord_still {B : List Nat} {w : Nat} (hs : Still B) (hw : ∀ b ∈ B, ev w b) (hww : ev w w) : Still (withWord B w) := by
  have h : Still (w :: B) := fun b hb c hc => by
    rcases List.mem_cons.mp hb with e1 | hb <;> rcases List.mem_cons.mp hc with e2 | hc
    · rw [e1, e2]
      exact hww
    · rw [e1]
      exact hw c hc
    · rw [e2]
      exact ev_comm.mpr (hw b hb)
    · exact hs b hb c hc
  exact h.of_span fun b hb => mem_withWord_span.mp (mem_span_of_mem hb)
theorem way_start {n : Nat} {B : List Nat} (h : Plain B) (hl : ∀ b ∈ B, b < 2 ^ n) (hs : Still B) (hn : n ≤ 24) (he : n % 2 = 0) : Way n (withWord B (2 ^ n - 1)) := by
  have hlt : 2 ^ n - 1 < 2 ^ n := Nat.sub_lt (Nat.two_pow_pos n) (by decide)
  refine ⟨withWord_plain h, withWord_lt hl hlt, withWord_still hs (fun b hb => ?_) ?_, mem_withWord_span.mpr (mem_span_of_mem List.mem_cons_self)⟩
  · have := hs b hb b hb
    unfold ev at *
    rw [Nat.and_self] at this
    rw [Nat.and_comm, and_allOn (hl b hb)]
    exact this
  · unfold ev
    rw [Nat.and_self, wt_allOn hn]
    exact he
theorem way_step {n : Nat} {B : List Nat} {w : Nat} (h : Way n B) (hn : n ≤ 24) (e : missingWord n B = some w) : Way n (withWord B w) ∧ (withWord B w).length = B.length + 1 := by
  obtain ⟨h1, h2, h3⟩ := missing_spec h.plain h.lt hn e
  have hall : ev w (2 ^ n - 1) := ev_comm.mpr (ev_span (fun b hb => ev_comm.mpr (h3 b hb)) h.all)
  refine ⟨⟨withWord_plain h.plain, withWord_lt h.lt h1, withWord_still h.still h3 ?_, mem_withWord_span.mpr (mem_span_cons.mpr (.inl h.all))⟩, withWord_length h.plain h2⟩
  unfold ev at *
  rw [and_allOn h1] at hall
  rw [Nat.and_self]
  exact hall
theorem way_own {n : Nat} {B : List Nat} (h : Way n B) (hl : ¬ 2 * B.length < n) (hn : n ≤ 24) : Own n B :=
  ⟨h.plain, h.lt, by have := still_half h.plain h.lt hn h.still; omega, h.still⟩
/-- an own room is its contrary -/
theorem Own.mem {n : Nat} {B : List Nat} (h : Own n B) (hn : n ≤ 24) {w : Nat} (hw : w < 2 ^ n) (he : ∀ b ∈ B, ev w b) : w ∈ span B := by
  refine Classical.byContradiction fun q => ?_
  have h1 := mem_contrary h.plain h.lt hn hw he
  have h2 : Plain (withWord B w) := withWord_plain h.plain
  have h3 := h2.length_le (C := contraryBasis n B) fun b hb => by
    refine span_sub (fun c hc => ?_) (mem_withWord_span.mp (mem_span_of_mem hb))
    rcases List.mem_cons.mp hc with rfl | hc
    · exact h1
    · exact mem_contrary h.plain h.lt hn (h.lt c hc) fun d hd => h.still c hc d hd
  have h4 := contrary_length h.plain h.lt
  rw [withWord_length h.plain q] at h3
  have := h.half
  omega
end Ow
namespace Ow
/-! rows of the free places: an orthonormal frame over two elements -/
def vecs : Nat → List (List Bool)
  | 0 => [[]]
  | n + 1 => (vecs n).flatMap fun v => [false :: v, true :: v]
theorem mem_vecs : ∀ {n : Nat} {v : List Bool}, v.length = n → v ∈ vecs n
  | 0, v, h => by
    rw [List.length_eq_zero_iff.mp h]
    exact List.mem_cons_self
  | n + 1, [], h => by cases h
  | n + 1, a :: v, h => by
    refine List.mem_flatMap.mpr ⟨v, mem_vecs (Nat.succ.inj h), ?_⟩
    cases a
    · exact List.mem_cons_self
    · exact List.mem_cons_of_mem _ List.mem_cons_self
def dotN : List Bool → List Bool → Nat
  | a :: r, b :: s => (if a && b then 1 else 0) + dotN r s
  | _, _ => 0
def odd (r s : List Bool) : Bool := dotN r s % 2 == 1
def frames (m : Nat) : Nat → List (List (List Bool))
  | 0 => [[]]
  | k + 1 => (frames m k).flatMap fun F => ((vecs m).filter fun r => odd r r && F.all fun s => !odd r s).map fun r => r :: F
theorem mem_frames {m : Nat} : ∀ {R : List (List Bool)}, (∀ r ∈ R, r.length = m) → (∀ r ∈ R, odd r r = true) → R.Pairwise (fun r s => odd r s = false) → R ∈ frames m R.length
  | [], _, _, _ => List.mem_cons_self
  | r :: R, hl, h1, h2 => by
    have hp := List.pairwise_cons.mp h2
    refine List.mem_flatMap.mpr ⟨R, mem_frames (fun s hs => hl s (List.mem_cons_of_mem _ hs)) (fun s hs => h1 s (List.mem_cons_of_mem _ hs)) hp.2, ?_⟩
    refine List.mem_map.mpr ⟨r, List.mem_filter.mpr ⟨mem_vecs (hl r List.mem_cons_self), ?_⟩, rfl⟩
    rw [h1 r List.mem_cons_self, Bool.true_and, List.all_eq_true]
    intro s hs
    rw [hp.1 s hs]
    rfl
def light (r : List Bool) : Bool := dotN r r == 1
def colsOf (m : Nat) (R : List (List Bool)) : List (List Bool) := (List.range m).map fun j => R.map fun r => r.getD j false
def canonCols (m k : Nat) : List (List Bool) := (List.range m).map fun j => (List.range m).map fun i => if i < k || j < k then i == j else i != j
def frameOk (m : Nat) (R : List (List Bool)) : Bool :=
  let k := R.countP light
  (k == m || k + 4 == m) && (R.all fun r => light r || dotN r r == 3) && (R.all fun r => R.all fun s => light r || light s || dotN r s != 0)
   && (colsOf m (R.filter light ++ R.filter fun r => !light r)).isPerm (canonCols m k)
theorem frames_ok1 : (frames 1 1).all (frameOk 1) = true := by decide +kernel
theorem frames_ok2 : (frames 2 2).all (frameOk 2) = true := by decide +kernel
theorem frames_ok3 : (frames 3 3).all (frameOk 3) = true := by decide +kernel
theorem frames_ok4 : (frames 4 4).all (frameOk 4) = true := by decide +kernel
theorem frames_ok5 : (frames 5 5).all (frameOk 5) = true := by decide +kernel
end Ow
namespace Ow
/-! from an own room to a frame -/
theorem places_perm {n : Nat} {B : List Nat} (h : Plain B) (hl : ∀ b ∈ B, b < 2 ^ n) : (List.range n).Perm ((B.map fun b => b.log2) ++ freeOf n B) := by
  refine (List.perm_ext_iff_of_nodup List.nodup_range ?_).mpr fun a => ?_
  · rw [List.nodup_append]
    refine ⟨h.logs_nodup, free_nodup n B, fun x hx y hy e => ?_⟩
    subst e
    exact of_decide_eq_true (List.mem_filter.mp hy).2 hx
  · rw [List.mem_append, List.mem_range]
    constructor
    · intro ha
      by_cases q : a ∈ B.map fun b => b.log2
      · exact .inl q
      · exact .inr (List.mem_filter.mpr ⟨List.mem_range.mpr ha, decide_eq_true q⟩)
    · rintro (q | q)
      · obtain ⟨b, hb, rfl⟩ := List.mem_map.mp q
        exact h.log_lt hl hb
      · exact List.mem_range.mp (List.mem_filter.mp q).1
def rowOf (L : List Nat) (b : Nat) : List Bool := L.map fun p => b.testBit p
theorem dotN_row (b c : Nat) : ∀ L : List Nat, dotN (rowOf L b) (rowOf L c) = L.countP fun p => b.testBit p && c.testBit p
  | [] => rfl
  | p :: L => by
    rw [List.countP_cons, ← dotN_row b c L]
    show (if (b.testBit p && c.testBit p) = true then 1 else 0) + dotN (rowOf L b) (rowOf L c) = _
    omega
theorem wt_and_split {n : Nat} {B : List Nat} (h : Plain B) (hl : ∀ b ∈ B, b < 2 ^ n) (hn : n ≤ 24) {b c : Nat} (hb : b ∈ B) (hc : c ∈ B) : wt (b &&& c) = (if b = c then 1 else 0) + dotN (rowOf (freeOf n B) b) (rowOf (freeOf n B) c) := by
  have hlt : b &&& c < 2 ^ n := Nat.and_lt_two_pow _ (hl c hc)
  rw [wt_eq hlt hn, (places_perm h hl).countP_eq, List.countP_append, dotN_row]
  have e1 : (freeOf n B).countP (fun p => (b &&& c).testBit p) = (freeOf n B).countP fun p => b.testBit p && c.testBit p := by
    congr 1
    funext p
    rw [Nat.testBit_and]
  rw [e1]
  congr 1
  rw [List.countP_map]
  have e2 : B.countP ((fun p => (b &&& c).testBit p) ∘ fun b => b.log2) = B.countP fun d => d == b && decide (b = c) := by
    refine List.countP_congr fun d hd => ?_
    show (b &&& c).testBit d.log2 = true ↔ _
    rw [Nat.testBit_and, h.bit_log hb hd, h.bit_log hc hd]
    by_cases z : b = d
    · subst z
      simp [eq_comm]
    · have z' : ¬ d = b := fun q => z q.symm
      simp [z, z']
  rw [e2]
  by_cases z : b = c
  · subst z
    simp only [decide_true, Bool.and_true, if_true]
    have := h.nodup.count (a := b)
    rw [if_pos hb] at this
    unfold List.count at this
    exact this
  · simp [z]
theorem Own.free_len {n m : Nat} {B : List Nat} (h : Own n B) (hm : n = 2 * m) : (freeOf n B).length = m ∧ B.length = m := by
  have h1 := free_length h.plain h.lt
  have h2 := h.half
  omega
def rowsOf (n : Nat) (B : List Nat) : List (List Bool) := B.map (rowOf (freeOf n B))
theorem Own.frame {n m : Nat} {B : List Nat} (h : Own n B) (hm : n = 2 * m) (hn : n ≤ 24) : rowsOf n B ∈ frames m m := by
  have hl := h.free_len hm
  have := mem_frames (m := m) (R := rowsOf n B) ?_ ?_ ?_
  · rw [show (rowsOf n B).length = m by unfold rowsOf; rw [List.length_map, hl.2]] at this
    exact this
  · intro r hr
    obtain ⟨b, hb, rfl⟩ := List.mem_map.mp hr
    unfold rowOf
    rw [List.length_map, hl.1]
  · intro r hr
    obtain ⟨b, hb, rfl⟩ := List.mem_map.mp hr
    have e := wt_and_split h.plain h.lt hn hb hb
    have s := h.still b hb b hb
    unfold ev at s
    rw [e, if_pos rfl] at s
    unfold odd
    rw [beq_iff_eq]
    omega
  · unfold rowsOf
    rw [List.pairwise_map]
    refine List.Pairwise.imp_of_mem ?_ h.plain.nodup
    intro b c hb hc ne
    have e := wt_and_split h.plain h.lt hn hb hc
    have s := h.still b hb c hc
    unfold ev at s
    rw [e, if_neg ne] at s
    unfold odd
    rw [beq_eq_false_iff_ne]
    omega
theorem frame_ok {m : Nat} (hm : 1 ≤ m) (hm5 : m ≤ 5) {R : List (List Bool)} (h : R ∈ frames m m) : frameOk m R = true := by
  match m, hm, hm5 with
  | 1, _, _ => exact List.all_eq_true.mp frames_ok1 R h
  | 2, _, _ => exact List.all_eq_true.mp frames_ok2 R h
  | 3, _, _ => exact List.all_eq_true.mp frames_ok3 R h
  | 4, _, _ => exact List.all_eq_true.mp frames_ok4 R h
  | 5, _, _ => exact List.all_eq_true.mp frames_ok5 R h

/-! the two types -/
def isPair (b : Nat) : Bool := wt b == 2
/-- how many pairs -/
def np (B : List Nat) : Nat := B.countP isPair
def pairFirst (B : List Nat) : List Nat := B.filter isPair ++ B.filter fun b => !isPair b
theorem pairFirst_perm (B : List Nat) : (pairFirst B).Perm B := List.filter_append_perm _ _
def bitsAt (bs : List Nat) (p : Nat) : List Bool := bs.map fun b => b.testBit p
def waysB (n : Nat) (bs : List Nat) : List (List Bool) := (List.range n).map (bitsAt bs)
def units (m : Nat) : List (List Bool) := (List.range m).map fun j => (List.range m).map fun i => i == j
theorem map_range_getD {α : Type} (f : Nat → α) : ∀ L : List Nat, (List.range L.length).map (fun j => f (L.getD j 0)) = L.map f := by
  intro L
  apply List.ext_getElem
  · simp
  · intro i h1 h2
    simp at h1 h2 ⊢
    simp [h2]
structure Kinds (m : Nat) (B : List Nat) : Prop where
  np : np B = m ∨ np B + 4 = m
  wts : ∀ b ∈ B, isPair b = true ∨ wt b = 4
  meet : ∀ b ∈ B, ∀ c ∈ B, isPair b = false → isPair c = false → b &&& c ≠ 0
theorem Own.light {n m : Nat} {B : List Nat} (h : Own n B) (hn : n ≤ 24) {b : Nat} (hb : b ∈ B) : Ow.light (rowOf (freeOf n B) b) = isPair b := by
  have e := wt_and_split h.plain h.lt hn hb hb
  rw [Nat.and_self, if_pos rfl] at e
  unfold Ow.light isPair
  rw [e]
  by_cases z : dotN (rowOf (freeOf n B) b) (rowOf (freeOf n B) b) = 1
  · simp [z]
  · have : ¬ 1 + dotN (rowOf (freeOf n B) b) (rowOf (freeOf n B) b) = 2 := by omega
    rw [beq_eq_false_iff_ne.mpr z, beq_eq_false_iff_ne.mpr this]
theorem Own.kinds {n m : Nat} {B : List Nat} (h : Own n B) (hm : n = 2 * m) (h1 : 1 ≤ m) (h5 : m ≤ 5) :
    Kinds m B ∧ (waysB n (pairFirst B)).Perm (units m ++ canonCols m (Ow.np B)) := by
  have hn : n ≤ 24 := by omega
  have hl := h.free_len hm
  have ok := frame_ok h1 h5 (h.frame hm hn)
  unfold frameOk at ok
  simp only [Bool.and_eq_true] at ok
  obtain ⟨⟨⟨o1, o2⟩, o3⟩, o4⟩ := ok
  have ek : (rowsOf n B).countP Ow.light = Ow.np B := by
    unfold rowsOf Ow.np
    rw [List.countP_map]
    exact List.countP_congr fun b hb => by
      show Ow.light (rowOf (freeOf n B) b) = true ↔ _
      rw [h.light (m := m) hn hb]
  rw [ek] at o1 o4
  refine ⟨⟨?_, fun b hb => ?_, fun b hb c hc e1 e2 => ?_⟩, ?_⟩
  · rw [Bool.or_eq_true, beq_iff_eq, beq_iff_eq] at o1
    exact o1
  · have := List.all_eq_true.mp o2 _ (List.mem_map.mpr ⟨b, hb, rfl⟩)
    rw [h.light (m := m) hn hb, Bool.or_eq_true, beq_iff_eq] at this
    rcases this with z | z
    · exact .inl z
    · have e := wt_and_split h.plain h.lt hn hb hb
      rw [Nat.and_self, if_pos rfl, z] at e
      exact .inr e
  · have := List.all_eq_true.mp (List.all_eq_true.mp o3 _ (List.mem_map.mpr ⟨b, hb, rfl⟩)) _ (List.mem_map.mpr ⟨c, hc, rfl⟩)
    rw [h.light (m := m) hn hb, h.light (m := m) hn hc, e1, e2, Bool.false_or, Bool.false_or, bne_iff_ne] at this
    intro z
    have e := wt_and_split h.plain h.lt hn hb hc
    rw [z, wt_zero] at e
    omega
  · have hp := List.isPerm_iff.mp o4
    refine List.Perm.trans ?_ (hp.append_left (units m))
    have e1 : (waysB n (pairFirst B)).Perm ((((pairFirst B).map fun b => b.log2) ++ freeOf n B).map (bitsAt (pairFirst B))) := by
      refine ((places_perm h.plain h.lt).map _).trans (List.Perm.map _ ?_)
      exact ((pairFirst_perm B).symm.map _).append_right _
    refine e1.trans (List.Perm.of_eq ?_)
    rw [List.map_append]
    have pl : ∀ b ∈ pairFirst B, b ∈ B := fun b hb => (pairFirst_perm B).mem_iff.mp hb
    have nd : (pairFirst B).Nodup := (pairFirst_perm B).nodup_iff.mpr h.plain.nodup
    have len : (pairFirst B).length = m := by rw [(pairFirst_perm B).length_eq, hl.2]
    congr 1
    · unfold units
      apply List.ext_getElem
      · simp [len]
      · intro j hj1 hj2
        simp only [List.getElem_map, List.getElem_range]
        have hj : j < (pairFirst B).length := by simpa using hj1
        unfold bitsAt
        apply List.ext_getElem
        · simp [len]
        · intro i hi1 hi2
          simp only [List.getElem_map, List.getElem_range]
          have hi : i < (pairFirst B).length := by simpa using hi1
          rw [h.plain.bit_log (pl _ (List.getElem_mem hi)) (pl _ (List.getElem_mem hj))]
          by_cases z : i = j
          · subst z
            simp
          · have : ¬ (pairFirst B)[i] = (pairFirst B)[j] := fun q => z ((List.getElem_inj nd).mp q)
            simp [z, this]
    · unfold colsOf
      have er : ((rowsOf n B).filter Ow.light ++ (rowsOf n B).filter fun r => !Ow.light r) = (pairFirst B).map (rowOf (freeOf n B)) := by
        unfold rowsOf pairFirst
        rw [List.map_append, List.filter_map, List.filter_map]
        congr 2
        · exact List.filter_congr fun b hb => h.light (m := m) hn hb
        · exact List.filter_congr fun b hb => by
            show (!Ow.light (rowOf (freeOf n B) b)) = _
            rw [h.light (m := m) hn hb]
      rw [er]
      apply List.ext_getElem
      · simp [hl.1]
      · intro j hj1 hj2
        simp only [List.getElem_map, List.getElem_range, List.map_map]
        have hj : j < (freeOf n B).length := by simpa using hj1
        unfold bitsAt
        apply List.map_congr_left
        intro b hb
        show _ = (rowOf (freeOf n B) b).getD j false
        unfold rowOf
        simp [hj]
/-- two own rooms with as many pairs have the same ways -/
theorem ways_alike {n m : Nat} {B C : List Nat} (hB : Own n B) (hC : Own n C) (hm : n = 2 * m) (h1 : 1 ≤ m) (h5 : m ≤ 5) (e : np B = np C) : (waysB n (pairFirst B)).Perm (waysB n (pairFirst C)) := by
  have a := (hB.kinds hm h1 h5).2
  have b := (hC.kinds hm h1 h5).2
  rw [e] at a
  exact a.trans b.symm
end Ow
namespace Ow
/-! ways as numbers -/
def toN (l : List Bool) : Nat := l.foldl (fun a b => 2 * a + b.toNat) 0
theorem toN_snoc (l : List Bool) (b : Bool) : toN (l ++ [b]) = 2 * toN l + b.toNat := by
  unfold toN
  rw [List.foldl_append]
  rfl
def ofN (k x : Nat) : List Bool := (List.range k).map fun i => x.testBit (k - 1 - i)
theorem snoc_cases {α : Type} (l : List α) : l = [] ∨ ∃ m a, l = m ++ [a] := by
  cases h : l with
  | nil => exact .inl rfl
  | cons a r => exact .inr ⟨(a :: r).dropLast, (a :: r).getLast (List.cons_ne_nil _ _), (List.dropLast_concat_getLast _).symm⟩
theorem toN_bit0 (l : List Bool) (b : Bool) : (toN (l ++ [b])).testBit 0 = b := by
  rw [toN_snoc, Nat.testBit_zero]
  cases b <;> simp <;> omega
theorem toN_bitS (l : List Bool) (b : Bool) (i : Nat) : (toN (l ++ [b])).testBit (i + 1) = (toN l).testBit i := by
  rw [toN_snoc, Nat.testBit_succ]
  congr 1
  cases b <;> simp <;> omega
theorem ofN_toN (l : List Bool) : ofN l.length (toN l) = l := by
  have key : ∀ (k : Nat) (l : List Bool), l.length = k → ofN k (toN l) = l := by
    intro k
    induction k with
    | zero =>
      intro l h
      rw [List.length_eq_zero_iff.mp h]
      rfl
    | succ k ih =>
      intro l h
      rcases snoc_cases l with rfl | ⟨m, b, rfl⟩
      · cases h
      · have hm : m.length = k := by simpa using h
        unfold ofN
        rw [List.range_succ, List.map_append, List.map_singleton, Nat.add_sub_cancel, Nat.sub_self, toN_bit0]
        congr 1
        have := ih m hm
        unfold ofN at this
        rw [← this]
        apply List.map_congr_left
        intro i hi
        have hi' := List.mem_range.mp hi
        rw [this, show k - i = (k - 1 - i) + 1 by omega, toN_bitS]
  exact key _ l rfl
def wayN (bs : List Nat) (p : Nat) : Nat := bs.foldl (fun a b => 2 * a + (b.testBit p).toNat) 0
def waysN (n : Nat) (bs : List Nat) : List Nat := (List.range n).map (wayN bs)
theorem wayN_eq (bs : List Nat) (p : Nat) : wayN bs p = toN (bitsAt bs p) := by
  unfold wayN toN bitsAt
  rw [List.foldl_map]
theorem waysN_eq (n : Nat) (bs : List Nat) : waysN n bs = (waysB n bs).map toN := by
  unfold waysN waysB
  rw [List.map_map]
  apply List.map_congr_left
  intro p _
  exact wayN_eq bs p
theorem wayN_snoc (us : List Nat) (w p : Nat) : wayN (us ++ [w]) p = 2 * wayN us p + (w.testBit p).toNat := by
  unfold wayN
  rw [List.foldl_append]
  rfl
theorem waysN_length (n : Nat) (bs : List Nat) : (waysN n bs).length = n := by
  unfold waysN
  rw [List.length_map, List.length_range]
theorem waysB_len {n : Nat} {bs : List Nat} {l : List Bool} (h : l ∈ waysB n bs) : l.length = bs.length := by
  obtain ⟨p, _, rfl⟩ := List.mem_map.mp h
  unfold bitsAt
  rw [List.length_map]
theorem ways_perm {n : Nat} {bs ws : List Nat} (hl : bs.length = ws.length) : (waysN n bs).Perm (waysN n ws) ↔ (waysB n bs).Perm (waysB n ws) := by
  constructor
  · intro h
    have h2 := h.map (ofN bs.length)
    have back : ∀ {cs : List Nat}, cs.length = bs.length → (waysN n cs).map (ofN bs.length) = waysB n cs := fun {cs} hc => by
      rw [waysN_eq, List.map_map]
      have : ∀ l ∈ waysB n cs, (ofN bs.length ∘ toN) l = id l := fun l hm => by
        show ofN bs.length (toN l) = l
        rw [← hc, ← waysB_len hm]
        exact ofN_toN l
      rw [List.map_congr_left this, List.map_id]
    rw [back rfl, back hl.symm] at h2
    exact h2
  · intro h
    rw [waysN_eq, waysN_eq]
    exact h.map _
/-- the ways ahead: halves -/
theorem wayN_half (us vs : List Nat) (p : Nat) : wayN us p = wayN (us ++ vs) p / 2 ^ vs.length := by
  induction vs generalizing us with
  | nil => simp
  | cons v vs ih =>
    rw [List.append_cons, List.length_cons, Nat.pow_succ, ← Nat.div_div_eq_div_mul, ← ih (us ++ [v]), wayN_snoc]
    cases v.testBit p <;> simp <;> omega
theorem waysN_prefix {n : Nat} {us vs cs ds : List Nat} (hl : vs.length = ds.length) (h : (waysN n (us ++ vs)).Perm (waysN n (cs ++ ds))) : (waysN n us).Perm (waysN n cs) := by
  have h2 := h.map fun x => x / 2 ^ vs.length
  have e : ∀ (as bs : List Nat), (waysN n (as ++ bs)).map (fun x => x / 2 ^ bs.length) = waysN n as := fun as bs => by
    unfold waysN
    rw [List.map_map]
    apply List.map_congr_left
    intro p _
    exact (wayN_half as bs p).symm
  rw [e, hl, e] at h2
  exact h2
theorem wt_ways {n : Nat} {us : List Nat} {w : Nat} (hw : w < 2 ^ n) (hn : n ≤ 24) : wt w = (waysN n (us ++ [w])).countP fun x => x % 2 == 1 := by
  rw [wt_eq hw hn]
  unfold waysN
  rw [List.countP_map]
  congr 1
  funext p
  show _ = (wayN (us ++ [w]) p % 2 == 1)
  rw [wayN_snoc]
  cases w.testBit p <;> simp <;> omega

/-! the search -/
def okStep (n : Nat) (bs us : List Nat) (w : Nat) : Bool := wt w == wt (bs.getD us.length 0) && upN (waysN n (us ++ [w])) == upN (waysN n (bs.take (us.length + 1)))
def ext (n : Nat) (C bs : List Nat) : Nat → List Nat → Option (List Nat)
  | 0, us => some us
  | d + 1, us => (C.filter (okStep n bs us)).findSome? fun w => ext n C bs d (us ++ [w])
theorem ext_some {n : Nat} {C bs : List Nat} : ∀ {d : Nat} {us vs : List Nat}, us.length + d = bs.length → ext n C bs d us = some vs → ∃ ts, vs = us ++ ts ∧ ts.length = d ∧ (∀ t ∈ ts, t ∈ C) ∧ (0 < d → (waysN n vs).Perm (waysN n bs))
  | 0, us, vs, _, h => ⟨[], by rw [List.append_nil]; exact (Option.some.inj h).symm, rfl, (fun t ht => nomatch ht), fun h => absurd h (Nat.lt_irrefl 0)⟩
  | d + 1, us, vs, hl, h => by
    obtain ⟨w, hw, e⟩ := List.exists_of_findSome?_eq_some h
    obtain ⟨hw1, hw2⟩ := List.mem_filter.mp hw
    obtain ⟨ts, e1, e2, e3, e4⟩ := ext_some (d := d) (us := us ++ [w]) (by rw [List.length_append, List.length_singleton]; omega) e
    refine ⟨w :: ts, by rw [e1, List.append_assoc]; rfl, by rw [List.length_cons, e2], fun t ht => ?_, fun _ => ?_⟩
    · rcases List.mem_cons.mp ht with rfl | ht
      · exact hw1
      · exact e3 t ht
    · cases d with
      | succ d => exact e4 (Nat.succ_pos d)
      | zero =>
        have : ts = [] := List.length_eq_zero_iff.mp e2
        subst this
        rw [List.append_nil] at e1
        subst e1
        unfold okStep at hw2
        rw [Bool.and_eq_true, beq_iff_eq, beq_iff_eq] at hw2
        have := upN_congr.mp hw2.2
        rw [show us.length + 1 = bs.length by omega, List.take_length] at this
        exact this
theorem okStep_of {n : Nat} {bs us vs : List Nat} {w : Nat} (hn : n ≤ 24) (hw : w < 2 ^ n) (hb : ∀ b ∈ bs, b < 2 ^ n) (hl : us.length + (vs.length + 1) = bs.length) (h : (waysN n (us ++ w :: vs)).Perm (waysN n bs)) : okStep n bs us w = true := by
  have hlt : us.length < bs.length := by omega
  have e : bs = bs.take (us.length + 1) ++ bs.drop (us.length + 1) := (List.take_append_drop _ _).symm
  have hp : (waysN n (us ++ [w])).Perm (waysN n (bs.take (us.length + 1))) := by
    refine waysN_prefix (vs := vs) (ds := bs.drop (us.length + 1)) (by rw [List.length_drop]; omega) ?_
    rw [← e, List.append_assoc]
    exact h
  have et : bs.take (us.length + 1) = bs.take us.length ++ [bs[us.length]] := by rw [List.take_add_one, List.getElem?_eq_getElem hlt]; rfl
  unfold okStep
  rw [Bool.and_eq_true, beq_iff_eq, beq_iff_eq]
  refine ⟨?_, upN_congr.mpr hp⟩
  have eg : bs.getD us.length 0 = bs[us.length] := by simp [hlt]
  rw [eg, wt_ways (us := us) hw hn, wt_ways (us := bs.take us.length) (hb _ (List.getElem_mem hlt)) hn, ← et]
  exact hp.countP_eq _
theorem ext_none {n : Nat} {C bs : List Nat} (hn : n ≤ 24) (hC : ∀ c ∈ C, c < 2 ^ n) (hb : ∀ b ∈ bs, b < 2 ^ n) : ∀ {d : Nat} {us : List Nat}, us.length + d = bs.length → ext n C bs d us = none → ∀ vs, vs.length = d → (∀ v ∈ vs, v ∈ C) → ¬ (waysN n (us ++ vs)).Perm (waysN n bs)
  | 0, us, _, h, _, _, _, _ => by cases h
  | d + 1, us, hl, h, vs, hv, hvC, hp => by
    match vs, hv with
    | v :: vs, hv =>
      have hv' : vs.length = d := Nat.succ.inj hv
      have hvc := hvC v List.mem_cons_self
      have ok := okStep_of hn (hC v hvc) hb (by rw [hv']; exact hl) hp
      have h' := List.findSome?_eq_none_iff.mp h v (List.mem_filter.mpr ⟨hvc, ok⟩)
      refine ext_none hn hC hb (d := d) (us := us ++ [v]) (by rw [List.length_append, List.length_singleton]; omega) h' vs hv' (fun x hx => hvC x (List.mem_cons_of_mem _ hx)) ?_
      rw [List.append_assoc]
      exact hp

/-! sums by a choice of words -/
def xsel : List Bool → List Nat → Nat
  | s :: ss, b :: bs => (if s then b else 0) ^^^ xsel ss bs
  | _, _ => 0
def pf : List Bool → List Bool → Bool
  | s :: ss, b :: bs => (s && b) ^^ pf ss bs
  | _, _ => false
theorem xsel_bit : ∀ (ss : List Bool) (bs : List Nat) (p : Nat), (xsel ss bs).testBit p = pf ss (bitsAt bs p)
  | [], bs, p => by
    show (0 : Nat).testBit p = false
    exact Nat.zero_testBit p
  | s :: ss, [], p => Nat.zero_testBit p
  | s :: ss, b :: bs, p => by
    show ((if s then b else 0) ^^^ xsel ss bs).testBit p = ((s && b.testBit p) ^^ pf ss (bitsAt bs p))
    rw [Nat.testBit_xor, xsel_bit ss bs p]
    cases s <;> simp
theorem xsel_mem : ∀ (ss : List Bool) (bs : List Nat), xsel ss bs ∈ span bs
  | [], bs => zero_mem_span bs
  | s :: ss, [] => zero_mem_span []
  | s :: ss, b :: bs => by
    show (if s then b else 0) ^^^ xsel ss bs ∈ span (b :: bs)
    have h := xsel_mem ss bs
    have h2 : xsel ss bs ∈ span (b :: bs) := mem_span_cons.mpr (.inl h)
    cases s with
    | false =>
      rw [if_neg Bool.false_ne_true, Nat.zero_xor]
      exact h2
    | true => exact xor_mem_span (mem_span_of_mem List.mem_cons_self) h2
theorem xsel_of : ∀ {bs : List Nat} {w : Nat}, w ∈ span bs → ∃ ss : List Bool, w = xsel ss bs
  | [], w, h => ⟨[], mem_span_nil.mp h⟩
  | b :: bs, w, h => by
    rcases mem_span_cons.mp h with h | h
    · obtain ⟨ss, e⟩ := xsel_of h
      exact ⟨false :: ss, by
        show w = (if false = true then b else 0) ^^^ xsel ss bs
        rw [if_neg Bool.false_ne_true, Nat.zero_xor, e]⟩
    · obtain ⟨ss, e⟩ := xsel_of h
      exact ⟨true :: ss, by
        show w = b ^^^ xsel ss bs
        rw [← e, Nat.xor_comm w b, xor_cancel_left]⟩
theorem xsel_all : ∀ {ws bs : List Nat}, (∀ w ∈ ws, w ∈ span bs) → ∃ S : List (List Bool), ws = S.map fun s => xsel s bs
  | [], bs, _ => ⟨[], rfl⟩
  | w :: ws, bs, h => by
    obtain ⟨s, e⟩ := xsel_of (h w List.mem_cons_self)
    obtain ⟨S, e2⟩ := xsel_all fun x hx => h x (List.mem_cons_of_mem _ hx)
    exact ⟨s :: S, by rw [List.map_cons, ← e, ← e2]⟩
theorem bitsAt_sel (S : List (List Bool)) (bs : List Nat) (p : Nat) : bitsAt (S.map fun s => xsel s bs) p = S.map fun s => pf s (bitsAt bs p) := by
  unfold bitsAt
  rw [List.map_map]
  apply List.map_congr_left
  intro s _
  exact xsel_bit s bs p
theorem waysB_sel (n : Nat) (S : List (List Bool)) (bs : List Nat) : waysB n (S.map fun s => xsel s bs) = (waysB n bs).map fun l => S.map fun s => pf s l := by
  unfold waysB
  rw [List.map_map]
  apply List.map_congr_left
  intro p _
  exact bitsAt_sel S bs p
/-- words of a room are matched in an alike room -/
theorem chain_of {n : Nat} {B C ws : List Nat} (h : (waysB n B).Perm (waysB n C)) (hw : ∀ w ∈ ws, w ∈ span B) : ∃ vs : List Nat, vs.length = ws.length ∧ (∀ v ∈ vs, v ∈ span C) ∧ (waysN n vs).Perm (waysN n ws) := by
  obtain ⟨S, e⟩ := xsel_all hw
  subst e
  refine ⟨S.map fun s => xsel s C, by simp, fun v hv => ?_, (ways_perm (by simp)).mpr ?_⟩
  · obtain ⟨s, _, rfl⟩ := List.mem_map.mp hv
    exact xsel_mem s C
  · rw [waysB_sel, waysB_sel]
    exact h.symm.map _
end Ow
namespace Ow
/-! sequences of places -/
theorem perm_of_sub {α : Type} [BEq α] [LawfulBEq α] : ∀ {l m : List α}, l.Nodup → (∀ x ∈ l, x ∈ m) → m.length ≤ l.length → l.Perm m
  | [], m, _, _, hl => by
    rw [List.length_eq_zero_iff.mp (Nat.le_zero.mp hl)]
  | a :: l, m, hn, hs, hl => by
    have ha : a ∈ m := hs a List.mem_cons_self
    have hp : m.Perm (a :: m.erase a) := List.perm_cons_erase ha
    refine List.Perm.trans (List.Perm.cons a (perm_of_sub (List.nodup_cons.mp hn).2 (fun x hx => ?_) ?_)) hp.symm
    · have hxa : x ≠ a := fun e => (List.nodup_cons.mp hn).1 (e ▸ hx)
      exact (List.mem_erase_of_ne hxa).mpr (hs x (List.mem_cons_of_mem _ hx))
    · rw [List.length_erase_of_mem ha]
      simp only [List.length_cons] at hl
      omega
def IsSeq (n : Nat) (σ : List Nat) : Prop := σ.Perm (List.range n)
theorem IsSeq.len {n : Nat} {σ : List Nat} (h : IsSeq n σ) : σ.length = n := by
  rw [List.Perm.length_eq h, List.length_range]
theorem IsSeq.lt {n : Nat} {σ : List Nat} (h : IsSeq n σ) {p : Nat} (hp : p < n) : σ.getD p 0 < n := by
  have hl : p < σ.length := by rw [h.len]; exact hp
  have : σ.getD p 0 = σ[p] := by simp [hl]
  rw [this]
  exact List.mem_range.mp ((List.Perm.mem_iff h).mp (List.getElem_mem hl))
theorem IsSeq.nodup {n : Nat} {σ : List Nat} (h : IsSeq n σ) : σ.Nodup := (List.Perm.nodup_iff h).mpr List.nodup_range
theorem IsSeq.inj {n : Nat} {σ : List Nat} (h : IsSeq n σ) {p q : Nat} (hp : p < n) (hq : q < n) (e : σ.getD p 0 = σ.getD q 0) : p = q := by
  have hpl : p < σ.length := by rw [h.len]; exact hp
  have hql : q < σ.length := by rw [h.len]; exact hq
  have e1 : σ.getD p 0 = σ[p] := by simp [hpl]
  have e2 : σ.getD q 0 = σ[q] := by simp [hql]
  rw [e1, e2] at e
  exact (List.getElem_inj h.nodup).mp e
theorem IsSeq.onto {n : Nat} {σ : List Nat} (h : IsSeq n σ) {q : Nat} (hq : q < n) : ∃ p, p < n ∧ σ.getD p 0 = q := by
  have hm : q ∈ σ := (List.Perm.mem_iff h).mpr (List.mem_range.mpr hq)
  obtain ⟨p, hp, e⟩ := List.mem_iff_getElem.mp hm
  refine ⟨p, by rw [← h.len]; exact hp, ?_⟩
  simp [hp, e]
theorem IsSeq.of {n : Nat} {σ : List Nat} (hl : σ.length = n) (hlt : ∀ p, p < n → σ.getD p 0 < n) (hi : ∀ p q, p < n → q < n → σ.getD p 0 = σ.getD q 0 → p = q) : IsSeq n σ := by
  have hn : σ.Nodup := by
    unfold List.Nodup
    rw [List.pairwise_iff_getElem]
    intro i j hi' hj' hij e
    have := hi i j (hl ▸ hi') (hl ▸ hj') (by simp [hi', hj', e])
    omega
  have hs : σ ⊆ List.range n := fun x hx => by
    obtain ⟨p, hp, e⟩ := List.mem_iff_getElem.mp hx
    have := hlt p (hl ▸ hp)
    rw [List.mem_range, ← e]
    simpa [hp] using this
  exact perm_of_sub hn hs (by rw [List.length_range, hl]; exact Nat.le_refl _)

def ledSpots (σ : List Nat) (w : Nat) : List Nat := ((List.range σ.length).filter fun p => w.testBit p).map fun p => σ.getD p 0
def led (σ : List Nat) (w : Nat) : Nat := wordOf (ledSpots σ w)
section
variable {n : Nat} {σ : List Nat} (h : IsSeq n σ)
include h
theorem ledSpots_nodup (w : Nat) : (ledSpots σ w).Nodup := by
  unfold ledSpots List.Nodup
  rw [List.pairwise_map]
  refine List.Pairwise.imp_of_mem ?_ (List.Pairwise.filter _ List.nodup_range)
  intro a b ha hb ne e
  have ha' := List.mem_range.mp (List.mem_filter.mp ha).1
  have hb' := List.mem_range.mp (List.mem_filter.mp hb).1
  rw [h.len] at ha' hb'
  exact ne (h.inj ha' hb' e)
theorem mem_ledSpots {w q : Nat} : q ∈ ledSpots σ w ↔ ∃ p, p < n ∧ w.testBit p = true ∧ σ.getD p 0 = q := by
  unfold ledSpots
  rw [List.mem_map]
  constructor
  · rintro ⟨p, hp, e⟩
    obtain ⟨h1, h2⟩ := List.mem_filter.mp hp
    rw [List.mem_range, h.len] at h1
    exact ⟨p, h1, h2, e⟩
  · rintro ⟨p, h1, h2, e⟩
    exact ⟨p, List.mem_filter.mpr ⟨List.mem_range.mpr (by rw [h.len]; exact h1), h2⟩, e⟩
theorem led_lt (w : Nat) : led σ w < 2 ^ n := wordOf_lt (ledSpots_nodup h w) fun q hq => by
  obtain ⟨p, hp, _, rfl⟩ := (mem_ledSpots h).mp hq
  exact h.lt hp
theorem led_bit (w : Nat) {p : Nat} (hp : p < n) : (led σ w).testBit (σ.getD p 0) = w.testBit p := by
  unfold led
  rw [wordOf_bit (ledSpots_nodup h w)]
  cases e : w.testBit p with
  | true => exact decide_eq_true ((mem_ledSpots h).mpr ⟨p, hp, e, rfl⟩)
  | false =>
    refine decide_eq_false fun hm => ?_
    obtain ⟨q, hq, e2, e3⟩ := (mem_ledSpots h).mp hm
    rw [h.inj hq hp e3, e] at e2
    cases e2
/-- a word told by its bits at the led places -/
theorem led_ext {x y : Nat} (hx : x < 2 ^ n) (hy : y < 2 ^ n) (hb : ∀ p, p < n → x.testBit (σ.getD p 0) = y.testBit (σ.getD p 0)) : x = y := by
  apply Nat.eq_of_testBit_eq
  intro q
  by_cases hq : q < n
  · obtain ⟨p, hp, rfl⟩ := h.onto hq
    exact hb p hp
  · have z : ∀ {x}, x < 2 ^ n → x.testBit q = false := fun {x} hx => Nat.testBit_lt_two_pow (Nat.lt_of_lt_of_le hx (Nat.pow_le_pow_right (by decide) (by omega)))
    rw [z hx, z hy]
theorem led_xor (a b : Nat) : led σ (a ^^^ b) = led σ a ^^^ led σ b :=
  led_ext h (led_lt h _) (Nat.xor_lt_two_pow (led_lt h a) (led_lt h b)) fun p hp => by
    rw [Nat.testBit_xor, led_bit h _ hp, led_bit h _ hp, led_bit h _ hp, Nat.testBit_xor]
theorem led_and (a b : Nat) : led σ (a &&& b) = led σ a &&& led σ b :=
  led_ext h (led_lt h _) (Nat.and_lt_two_pow _ (led_lt h b)) fun p hp => by
    rw [Nat.testBit_and, led_bit h _ hp, led_bit h _ hp, led_bit h _ hp, Nat.testBit_and]
theorem led_zero : led σ 0 = 0 :=
  led_ext h (led_lt h _) (Nat.two_pow_pos n) fun p hp => by
    rw [led_bit h _ hp, Nat.zero_testBit, Nat.zero_testBit]
theorem led_inj {a b : Nat} (ha : a < 2 ^ n) (hb : b < 2 ^ n) (e : led σ a = led σ b) : a = b := by
  apply Nat.eq_of_testBit_eq
  intro p
  by_cases hp : p < n
  · rw [← led_bit h a hp, e, led_bit h b hp]
  · have z : ∀ {x}, x < 2 ^ n → x.testBit p = false := fun {x} hx => Nat.testBit_lt_two_pow (Nat.lt_of_lt_of_le hx (Nat.pow_le_pow_right (by decide) (by omega)))
    rw [z ha, z hb]
theorem led_wt (hn : n ≤ 24) {w : Nat} (hw : w < 2 ^ n) : wt (led σ w) = wt w := by
  have e : led σ w = wordOf (ledSpots σ w) &&& led σ w := (Nat.and_self (led σ w)).symm
  rw [e, wt_wordOf_and (ledSpots_nodup h w) fun q hq => by
    obtain ⟨p, hp, _, rfl⟩ := (mem_ledSpots h).mp hq
    exact Nat.lt_of_lt_of_le (h.lt hp) hn]
  rw [wt_eq hw hn]
  unfold ledSpots
  rw [List.countP_map, List.countP_filter, h.len]
  refine List.countP_congr fun p hp => ?_
  have hp' := List.mem_range.mp hp
  show ((led σ w).testBit (σ.getD p 0) && w.testBit p) = true ↔ _
  rw [led_bit h w hp', Bool.and_self]
theorem led_span {B C : List Nat} (hb : ∀ b ∈ B, led σ b ∈ span C) : ∀ {w}, w ∈ span B → led σ w ∈ span C :=
  span_ind (p := fun w => led σ w ∈ span C) (by rw [led_zero h]; exact zero_mem_span C) (fun x y a b => by rw [led_xor h]; exact xor_mem_span a b) hb
/-- a room led into one of the same size fills it -/
theorem led_perm {B C : List Nat} (hB : Plain B) (hlt : ∀ b ∈ B, b < 2 ^ n) (hl : B.length = C.length) (hb : ∀ b ∈ B, led σ b ∈ span C) : ((span B).map (led σ)).Perm (span C) := by
  have hn : ((span B).map (led σ)).Nodup := by
    unfold List.Nodup
    rw [List.pairwise_map]
    refine List.Pairwise.imp_of_mem ?_ hB.span_nodup
    intro a b ha hb' ne e
    exact ne (led_inj h (span_lt hlt ha) (span_lt hlt hb') e)
  refine perm_of_sub hn (fun x hx => ?_) (by rw [List.length_map, length_span, length_span, hl]; exact Nat.le_refl _)
  obtain ⟨w, hw, rfl⟩ := List.mem_map.mp hx
  exact led_span h hb hw
end
/-! from ways to a sequence -/
def placesWith (E : List Nat) (v : Nat) : List Nat := (List.range E.length).filter fun q => E.getD q 0 == v
def seqOf (E N : List Nat) : List Nat := (List.range N.length).map fun i => (placesWith E (N.getD i 0)).getD ((N.take i).count (N.getD i 0)) 0
theorem placesWith_length (E : List Nat) (v : Nat) : (placesWith E v).length = E.count v := by
  unfold placesWith
  rw [← List.countP_eq_length_filter]
  have : E = (List.range E.length).map fun q => E.getD q 0 := by
    have := map_range_getD (fun x => x) E
    simpa using this.symm
  conv => rhs; rw [this]
  unfold List.count
  rw [List.countP_map]
  rfl
theorem count_take_lt {N : List Nat} {i : Nat} (hi : i < N.length) : (N.take i).count (N.getD i 0) < N.count (N.getD i 0) := by
  have e : N.getD i 0 = N[i] := by simp [hi]
  rw [e]
  have e2 : N.count N[i] = (N.take i ++ N.drop i).count N[i] := by rw [List.take_append_drop]
  rw [e2, List.count_append, List.drop_eq_getElem_cons hi, List.count_cons_self]
  omega
theorem seqOf_at {E N : List Nat} (h : E.Perm N) {i : Nat} (hi : i < N.length) : ∃ q, (seqOf E N).getD i 0 = q ∧ q < E.length ∧ E.getD q 0 = N.getD i 0 ∧ (placesWith E (N.getD i 0))[(N.take i).count (N.getD i 0)]? = some q := by
  have hc := count_take_lt hi
  have hlen : (N.take i).count (N.getD i 0) < (placesWith E (N.getD i 0)).length := by
    rw [placesWith_length, h.count_eq]
    exact hc
  have e : (seqOf E N).getD i 0 = (placesWith E (N.getD i 0))[(N.take i).count (N.getD i 0)] := by
    unfold seqOf
    simp only [List.getD_eq_getElem?_getD, List.getElem?_map, List.getElem?_range hi]
    simp [List.getElem?_eq_getElem hlen]
    rw [List.getElem?_eq_getElem (by simpa [hi] using hlen)]
    simp [hi]
  have hm := List.getElem_mem hlen
  obtain ⟨h1, h2⟩ := List.mem_filter.mp hm
  refine ⟨_, e, List.mem_range.mp h1, beq_iff_eq.mp h2, ?_⟩
  rw [List.getElem?_eq_getElem hlen]
theorem seqOf_seq {E N : List Nat} (h : E.Perm N) : IsSeq N.length (seqOf E N) := by
  refine IsSeq.of (by unfold seqOf; rw [List.length_map, List.length_range]) (fun p hp => ?_) fun p q hp hq e => ?_
  · obtain ⟨q, e, hq, _⟩ := seqOf_at h hp
    rw [e, ← h.length_eq]
    exact hq
  · obtain ⟨x, e1, _, e2, e3⟩ := seqOf_at h hp
    obtain ⟨y, e1', _, e2', e3'⟩ := seqOf_at h hq
    rw [e1, e1'] at e
    subst e
    rw [e2] at e2'
    rw [← e2'] at e3'
    have nd : (placesWith E (N.getD p 0)).Nodup := List.Pairwise.filter _ List.nodup_range
    have hc : (N.take p).count (N.getD p 0) = (N.take q).count (N.getD p 0) := by
      obtain ⟨l1, x1⟩ := List.getElem?_eq_some_iff.mp e3
      obtain ⟨l2, x2⟩ := List.getElem?_eq_some_iff.mp e3'
      exact (List.getElem_inj nd).mp (x1.trans x2.symm)
    -- counts rise at each meeting
    have mono : ∀ {a b : Nat}, a < b → b < N.length → N.getD a 0 = N.getD p 0 → (N.take a).count (N.getD p 0) < (N.take b).count (N.getD p 0) := by
      intro a b hab hb hv
      have ha : a < (N.take b).length := by rw [List.length_take]; omega
      have := count_take_lt (N := N.take b) (i := a) ha
      have e1 : (N.take b).getD a 0 = N.getD a 0 := by
        have hal : a < N.length := by omega
        simp [List.getElem?_take, hab]
      rw [e1, hv, List.take_take, Nat.min_eq_left (Nat.le_of_lt hab)] at this
      exact this
    rcases Nat.lt_trichotomy p q with z | z | z
    · have := mono z hq rfl
      omega
    · exact z
    · have := mono z hp e2'.symm
      omega
/-- the sequence leads words to words -/
theorem seqOf_led {n : Nat} {bs ws : List Nat} (hl : ws.length = bs.length) (h : (waysN n ws).Perm (waysN n bs)) (hw : ∀ w ∈ ws, w < 2 ^ n) {j : Nat} (hj : j < bs.length) : led (seqOf (waysN n ws) (waysN n bs)) (bs.getD j 0) = ws.getD j 0 := by
  have hs : IsSeq n (seqOf (waysN n ws) (waysN n bs)) := by
    have := seqOf_seq h
    rw [waysN_length] at this
    exact this
  have hjw : j < ws.length := by omega
  have ew : ws.getD j 0 = ws[j] := by simp [hjw]
  have eb : bs.getD j 0 = bs[j] := by simp [hj]
  refine led_ext hs (led_lt hs _) (by rw [ew]; exact hw _ (List.getElem_mem hjw)) fun p hp => ?_
  rw [led_bit hs _ hp]
  obtain ⟨q, e1, e2, e3, _⟩ := seqOf_at h (i := p) (by rw [waysN_length]; exact hp)
  rw [waysN_length] at e2
  rw [e1]
  have g : ∀ {cs : List Nat} {x : Nat}, x < n → (waysN n cs).getD x 0 = toN (bitsAt cs x) := fun {cs x} hx => by
    unfold waysN
    simp [hx, wayN_eq]
  rw [g e2, g hp] at e3
  have l1 : (bitsAt ws q).length = bs.length := by unfold bitsAt; rw [List.length_map, hl]
  have l2 : (bitsAt bs p).length = bs.length := by unfold bitsAt; rw [List.length_map]
  have e4 : bitsAt ws q = bitsAt bs p := by
    have a := ofN_toN (bitsAt ws q)
    have b := ofN_toN (bitsAt bs p)
    rw [l1, e3] at a
    rw [l2] at b
    exact a.symm.trans b
  have e5 : (bitsAt ws q)[j]? = (bitsAt bs p)[j]? := by rw [e4]
  unfold bitsAt at e5
  rw [List.getElem?_map, List.getElem?_map, List.getElem?_eq_getElem hjw, List.getElem?_eq_getElem hj] at e5
  rw [eb, ew]
  exact (Option.some.inj e5).symm
/-! bases -/
structure IsBasis (B bs : List Nat) : Prop where
  mem : ∀ b ∈ bs, b ∈ span B
  len : bs.length = B.length
  ind : (plainBasis bs).length = bs.length
theorem IsBasis.span {B bs : List Nat} (h : IsBasis B bs) (hB : Plain B) {w : Nat} : w ∈ Ow.span B ↔ w ∈ Ow.span bs := by
  have h1 : (Ow.span (plainBasis bs)) ⊆ Ow.span B := fun x hx => span_sub h.mem (mem_plainBasis_span.mp hx)
  have hp := perm_of_sub (plainBasis_plain bs).span_nodup h1 (by rw [length_span, length_span, h.ind, h.len]; exact Nat.le_refl _)
  exact hp.mem_iff.symm.trans mem_plainBasis_span
theorem IsBasis.lt {B bs : List Nat} (h : IsBasis B bs) {n : Nat} (hl : ∀ b ∈ B, b < 2 ^ n) : ∀ b ∈ bs, b < 2 ^ n := fun b hb => span_lt hl (h.mem b hb)
/-- a full chain in C: the sequence leads the room B onto the room C -/
theorem chain_led {n : Nat} {B C bs ws : List Nat} (hB : Plain B) (hBl : ∀ b ∈ B, b < 2 ^ n) (hCl : ∀ b ∈ C, b < 2 ^ n) (hs : B.length = C.length) (hb : IsBasis B bs) (hl : ws.length = bs.length) (hw : ∀ w ∈ ws, w ∈ span C) (h : (waysN n ws).Perm (waysN n bs)) :
    IsSeq n (seqOf (waysN n ws) (waysN n bs)) ∧ ((span B).map (led (seqOf (waysN n ws) (waysN n bs)))).Perm (span C) := by
  have hq : IsSeq n (seqOf (waysN n ws) (waysN n bs)) := by
    have := seqOf_seq h
    rw [waysN_length] at this
    exact this
  refine ⟨hq, led_perm hq hB hBl hs fun b hbB => ?_⟩
  refine led_span hq (B := bs) (fun c hc => ?_) ((hb.span hB).mp (mem_span_of_mem hbB))
  obtain ⟨j, hj, e⟩ := List.mem_iff_getElem.mp hc
  have := seqOf_led hl h (fun w hw' => span_lt hCl (hw w hw')) hj
  rw [show bs.getD j 0 = c by simp [hj, e]] at this
  rw [this]
  have hjw : j < ws.length := by omega
  rw [show ws.getD j 0 = ws[j] by simp [hjw]]
  exact hw _ (List.getElem_mem hjw)
end Ow
namespace Ow
/-! words by their places -/
theorem mem_spots {w p : Nat} : p ∈ spots w ↔ p < 24 ∧ w.testBit p = true := by
  unfold spots
  rw [List.mem_filter, List.mem_range]
theorem spots_nodup (w : Nat) : (spots w).Nodup := List.Pairwise.filter _ List.nodup_range
theorem off_lt {w n p : Nat} (h : w < 2 ^ n) (hp : n ≤ p) : w.testBit p = false := Nat.testBit_lt_two_pow (Nat.lt_of_lt_of_le h (Nat.pow_le_pow_right (by decide) hp))
theorem word_spots {w : Nat} (h : w < 2 ^ 24) : w = wordOf (spots w) := by
  apply Nat.eq_of_testBit_eq
  intro p
  rw [wordOf_bit (spots_nodup w)]
  by_cases hp : p < 24
  · cases e : w.testBit p with
    | true => exact (decide_eq_true (mem_spots.mpr ⟨hp, e⟩)).symm
    | false => exact (decide_eq_false fun q => by rw [(mem_spots.mp q).2] at e; cases e).symm
  · rw [off_lt h (by omega)]
    exact (decide_eq_false fun q => hp (mem_spots.mp q).1).symm
/-- a pair: its two places; words even to it have both or none -/
theorem pair_places {w : Nat} (h : w < 2 ^ 24) (h2 : wt w = 2) : ∃ p q, p < q ∧ q < 24 ∧ (∀ i, w.testBit i = decide (i = p ∨ i = q)) ∧ ∀ d, ev w d → d.testBit p = d.testBit q := by
  have hl := spots_length w
  rw [h2] at hl
  have hs : (spots w).Pairwise (· < ·) := List.Pairwise.filter _ List.pairwise_lt_range
  match e : spots w, hl, hs with
  | [p, q], _, hs =>
    have hpq : p < q := (List.pairwise_cons.mp hs).1 q List.mem_cons_self
    have hq : q < 24 := (mem_spots.mp (e ▸ List.mem_cons_of_mem _ List.mem_cons_self : q ∈ spots w)).1
    refine ⟨p, q, hpq, hq, fun i => ?_, fun d hd => ?_⟩
    · have := wordOf_bit (spots_nodup w) i
      rw [← word_spots h, e] at this
      rw [this]
      simp
    · unfold ev at hd
      rw [word_spots h, wt_wordOf_and (spots_nodup w) fun x hx => (mem_spots.mp hx).1, e, List.countP_cons, List.countP_cons, List.countP_nil] at hd
      cases h1 : d.testBit p <;> cases h2 : d.testBit q <;> simp [h1, h2] at hd ⊢
/-- a word told by its highest places -/
theorem Plain.mem_filter : ∀ {B : List Nat} {x : Nat} {p : Nat → Bool}, Plain B → x ∈ span B → (∀ b ∈ B, p b = true → x.testBit b.log2 = false) → x ∈ span (B.filter fun b => !p b)
  | [], x, p, _, hx, _ => hx
  | b :: B, x, p, h, hx, ho => by
    have off : ∀ y ∈ span B, y.testBit b.log2 = false := fun y hy => span_ind (p := fun w => w.testBit b.log2 = false) (Nat.zero_testBit _) (fun x y a c => by rw [Nat.testBit_xor, a, c]; rfl) (fun c hc => (h.head hc).2.2) hy
    have hsub : ∀ {y}, y ∈ span (B.filter fun b => !p b) → y ∈ span ((b :: B).filter fun b => !p b) := fun {y} => by
      rw [List.filter_cons]
      split
      · exact fun hy => mem_span_cons.mpr (.inl hy)
      · exact id
    rcases mem_span_cons.mp hx with q | q
    · exact hsub (h.tail.mem_filter q fun c hc hp => ho c (List.mem_cons_of_mem _ hc) hp)
    · have hb : x.testBit b.log2 = true := by
        have := off _ q
        rw [Nat.testBit_xor, log2_bit (h.ne List.mem_cons_self), Bool.xor_true] at this
        simpa using this
      have hpb : p b = false := by
        cases e : p b with
        | false => rfl
        | true =>
          rw [ho b List.mem_cons_self e] at hb
          cases hb
      have := h.tail.mem_filter q fun c hc hp => by
        rw [Nat.testBit_xor, ho c (List.mem_cons_of_mem _ hc) hp, (h.head hc).2.1]
        rfl
      rw [List.filter_cons, hpb]
      simp only [Bool.not_false, if_true]
      exact mem_span_cons.mpr (.inr this)
theorem Plain.top {B : List Nat} {x : Nat} (h : Plain B) (hx : x ∈ span B) (h0 : x ≠ 0) : ∃ b ∈ B, x.testBit b.log2 = true := by
  refine Classical.byContradiction fun hn => h0 (h.zero hx fun b hb => ?_)
  cases e : x.testBit b.log2 with
  | false => rfl
  | true => exact absurd ⟨b, hb, e⟩ hn
/-- a pair of an own room stands in its plain basis -/
theorem pair_mem {n : Nat} {B : List Nat} (h : Own n B) (hn : n ≤ 24) {w : Nat} (hw : w ∈ span B) (h2 : wt w = 2) : w ∈ B := by
  have hlt : w < 2 ^ 24 := Nat.lt_of_lt_of_le (span_lt h.lt hw) (Nat.pow_le_pow_right (by decide) hn)
  obtain ⟨p, q, hpq, hq, hb, he⟩ := pair_places hlt h2
  have both : ∀ d ∈ B, d.testBit p = d.testBit q := fun d hd => he d (h.still.span hw (mem_span_of_mem hd))
  have nop : ∀ d ∈ B, d.log2 ≠ p := fun d hd e => by
    have e1 := log2_bit (h.plain.ne hd)
    rw [e, both d hd, above_log2 (by omega)] at e1
    cases e1
  have h0 : w ≠ 0 := by
    rintro rfl
    rw [wt_zero] at h2
    cases h2
  obtain ⟨b, hbB, e⟩ := h.plain.top hw h0
  have eb : b.log2 = q := by
    rw [hb] at e
    rcases of_decide_eq_true e with z | z
    · exact absurd z (nop b hbB)
    · exact z
  have z : w ^^^ b = 0 := by
    refine h.plain.zero (xor_mem_span hw (mem_span_of_mem hbB)) fun d hd => ?_
    rw [Nat.testBit_xor, h.plain.bit_log hbB hd, hb]
    by_cases y : b = d
    · subst y
      rw [decide_eq_true (.inr eb), decide_eq_true rfl]
      rfl
    · have y2 : d.log2 ≠ q := fun e2 => by
        have := h.plain.bit_log hbB hd
        rw [decide_eq_false y, e2, ← eb, log2_bit (h.plain.ne hbB)] at this
        cases this
      rw [decide_eq_false y, decide_eq_false fun k => k.elim (nop d hd) y2]
      rfl
  rw [xor_eq_zero.mp z]
  exact hbB
def pairsOf (B : List Nat) : List Nat := upN (B.filter isPair)
theorem pairsOf_length (B : List Nat) : (pairsOf B).length = np B := by
  unfold pairsOf np
  rw [upN_length, List.countP_eq_length_filter]
theorem pairsOf_perm {n : Nat} {B : List Nat} (h : Own n B) (hn : n ≤ 24) : (pairsOf B).Perm ((span B).filter isPair) := by
  refine (upN_perm _).trans ((List.perm_ext_iff_of_nodup (List.Pairwise.filter _ h.plain.nodup) (List.Pairwise.filter _ h.plain.span_nodup)).mpr fun a => ?_)
  rw [List.mem_filter, List.mem_filter]
  constructor
  · exact fun ⟨x, y⟩ => ⟨mem_span_of_mem x, y⟩
  · exact fun ⟨x, y⟩ => ⟨pair_mem h hn x (beq_iff_eq.mp y), y⟩
theorem pairs_led {n : Nat} {B C σ : List Nat} (hB : Own n B) (hC : Own n C) (hn : n ≤ 24) (hs : IsSeq n σ) (hp : ((span B).map (led σ)).Perm (span C)) : ((pairsOf B).map (led σ)).Perm (pairsOf C) := by
  refine ((pairsOf_perm hB hn).map _).trans (List.Perm.trans ?_ (pairsOf_perm hC hn).symm)
  have e : ((span B).filter isPair).map (led σ) = ((span B).map (led σ)).filter isPair := by
    rw [List.filter_map]
    congr 1
    refine List.filter_congr fun w hw => ?_
    show isPair w = isPair (led σ w)
    unfold isPair
    rw [led_wt hs hn (span_lt hB.lt hw)]
  rw [e]
  exact hp.filter _
theorem np_led {n : Nat} {B C σ : List Nat} (hB : Own n B) (hC : Own n C) (hn : n ≤ 24) (hs : IsSeq n σ) (hp : ((span B).map (led σ)).Perm (span C)) : np B = np C := by
  have := (pairs_led hB hC hn hs hp).length_eq
  rw [List.length_map, pairsOf_length, pairsOf_length] at this
  exact this
/-- each place is on in some word of an own room -/
theorem Own.cover {n : Nat} {B : List Nat} (h : Own n B) (hn : n ≤ 24) {p : Nat} (hp : p < n) : ∃ b ∈ B, b.testBit p = true := by
  have hall : 2 ^ n - 1 ∈ Ow.span B := by
    refine h.mem hn (Nat.sub_lt (Nat.two_pow_pos n) (by decide)) fun b hb => ?_
    have := h.still b hb b hb
    unfold ev at *
    rw [Nat.and_self] at this
    rw [Nat.and_comm, and_allOn (h.lt b hb)]
    exact this
  refine Classical.byContradiction fun hn' => ?_
  have off := span_ind (p := fun w => w.testBit p = false) (Nat.zero_testBit _) (fun x y a c => by rw [Nat.testBit_xor, a, c]; rfl) (fun b hb => by
    cases e : b.testBit p with
    | false => rfl
    | true => exact absurd ⟨b, hb, e⟩ hn') hall
  rw [Nat.testBit_two_pow_sub_one, decide_eq_true hp] at off
  cases off

/-! shortened -/
def shortD (n off c : Nat) : Nat := ((c &&& off) <<< n) + c
def shortB (B : List Nat) (word n : Nat) : List Nat := (plainBasis (B.map (shortD n ((2 ^ n - 1) ^^^ word)))).filter fun w => w >>> n == 0
theorem shortD_bit {n off c : Nat} (hc : c < 2 ^ n) (i : Nat) : (shortD n off c).testBit i = if i < n then c.testBit i else (c &&& off).testBit (i - n) := by
  unfold shortD
  rw [Nat.shiftLeft_add_eq_or_of_lt hc, Nat.testBit_or, Nat.testBit_shiftLeft]
  by_cases h : i < n
  · rw [if_pos h]
    have : ¬ n ≤ i := by omega
    simp [this]
  · rw [if_neg h, off_lt hc (by omega)]
    have : n ≤ i := by omega
    simp [this]
theorem shortD_xor {n off a b : Nat} (ha : a < 2 ^ n) (hb : b < 2 ^ n) : shortD n off (a ^^^ b) = shortD n off a ^^^ shortD n off b := by
  apply Nat.eq_of_testBit_eq
  intro i
  rw [Nat.testBit_xor, shortD_bit ha, shortD_bit hb, shortD_bit (Nat.xor_lt_two_pow ha hb)]
  split
  · exact Nat.testBit_xor _ _ _
  · rw [Nat.and_xor_distrib_right, Nat.testBit_xor]
theorem shortD_zero {n off : Nat} : shortD n off 0 = 0 := by
  unfold shortD
  rw [Nat.zero_and, Nat.zero_shiftLeft]
theorem mem_span_shortD {n off : Nat} : ∀ {B : List Nat} {x : Nat}, (∀ b ∈ B, b < 2 ^ n) → (x ∈ span (B.map (shortD n off)) ↔ ∃ c ∈ span B, x = shortD n off c)
  | [], x, _ => by
    rw [List.map_nil, mem_span_nil]
    constructor
    · rintro rfl
      exact ⟨0, mem_span_nil.mpr rfl, shortD_zero.symm⟩
    · rintro ⟨c, hc, rfl⟩
      rw [mem_span_nil.mp hc, shortD_zero]
  | b :: B, x, hl => by
    have hB : ∀ c ∈ B, c < 2 ^ n := fun c hc => hl c (List.mem_cons_of_mem _ hc)
    have hb := hl b List.mem_cons_self
    rw [List.map_cons, mem_span_cons, mem_span_shortD hB, mem_span_shortD hB]
    constructor
    · rintro (⟨c, hc, e⟩ | ⟨c, hc, e⟩)
      · exact ⟨c, mem_span_cons.mpr (.inl hc), e⟩
      · refine ⟨c ^^^ b, mem_span_cons.mpr (.inr (by rw [xor_cancel]; exact hc)), ?_⟩
        rw [shortD_xor (span_lt hB hc) hb, ← e, xor_cancel]
    · rintro ⟨c, hc, e⟩
      rcases mem_span_cons.mp hc with q | q
      · exact .inl ⟨c, q, e⟩
      · refine .inr ⟨c ^^^ b, q, ?_⟩
        have hc2 : c < 2 ^ n := span_lt hl hc
        rw [shortD_xor hc2 hb, e]
theorem mem_span_low : ∀ {E : List Nat} {n x : Nat}, Plain E → (x ∈ span (E.filter fun w => w >>> n == 0) ↔ x ∈ span E ∧ x < 2 ^ n) := by
  intro E n x h
  have low : ∀ {w : Nat}, (w >>> n == 0) = true ↔ w < 2 ^ n := fun {w} => by
    rw [beq_iff_eq, Nat.shiftRight_eq_div_pow, Nat.div_eq_zero_iff]
    have := Nat.two_pow_pos n
    omega
  constructor
  · intro hx
    exact ⟨span_sub (fun b hb => mem_span_of_mem (List.mem_filter.mp hb).1) hx, span_lt (fun b hb => low.mp (List.mem_filter.mp hb).2) hx⟩
  · rintro ⟨hx, hl⟩
    have := h.mem_filter (p := fun w => !(w >>> n == 0)) hx fun b hb hp => by
      have hb2 : ¬ b < 2 ^ n := fun z => by
        rw [low.mpr z] at hp
        cases hp
      refine off_lt hl ?_
      refine Nat.le_of_not_lt fun z => hb2 ((Nat.log2_lt (h.ne hb)).mp z)
    have e : (E.filter fun b => !(!(b >>> n == 0))) = E.filter fun w => w >>> n == 0 := by
      congr 1
      funext b
      rw [Bool.not_not]
    rw [e] at this
    exact this
theorem shortB_plain (B : List Nat) (word n : Nat) : Plain (shortB B word n) := (plainBasis_plain _).filter _
theorem mem_shortB {B : List Nat} {word n x : Nat} (hl : ∀ b ∈ B, b < 2 ^ n) : x ∈ span (shortB B word n) ↔ x ∈ span B ∧ x &&& ((2 ^ n - 1) ^^^ word) = 0 := by
  unfold shortB
  rw [mem_span_low (plainBasis_plain _), mem_plainBasis_span, mem_span_shortD hl]
  constructor
  · rintro ⟨⟨c, hc, rfl⟩, hlt⟩
    have hcl := span_lt hl hc
    have e : c &&& ((2 ^ n - 1) ^^^ word) = 0 := by
      apply Nat.eq_of_testBit_eq
      intro i
      have := shortD_bit (off := (2 ^ n - 1) ^^^ word) hcl (i + n)
      rw [off_lt hlt (by omega), if_neg (by omega), Nat.add_sub_cancel] at this
      rw [← this, Nat.zero_testBit]
    unfold shortD
    rw [e, Nat.zero_shiftLeft, Nat.zero_add]
    exact ⟨hc, e⟩
  · rintro ⟨hx, e⟩
    have e2 : shortD n ((2 ^ n - 1) ^^^ word) x = x := by
      unfold shortD
      rw [e, Nat.zero_shiftLeft, Nat.zero_add]
    exact ⟨⟨x, hx, e2.symm⟩, span_lt hl hx⟩
def andNot (l w : Nat) : Nat := l ^^^ (l &&& w)
theorem andNot_bit (l w i : Nat) : (andNot l w).testBit i = (l.testBit i && !w.testBit i) := by
  unfold andNot
  rw [Nat.testBit_xor, Nat.testBit_and]
  cases l.testBit i <;> cases w.testBit i <;> rfl
def leftPairs (n : Nat) (B : List Nat) : Nat := (pairsOf B).foldl andNot (2 ^ n - 1)
theorem foldl_andNot_bit : ∀ (ps : List Nat) (l i : Nat), (ps.foldl andNot l).testBit i = (l.testBit i && !(ps.any fun w => w.testBit i))
  | [], l, i => by simp
  | p :: ps, l, i => by
    rw [List.foldl_cons, foldl_andNot_bit ps, andNot_bit, List.any_cons, Bool.not_or, Bool.and_assoc]
def withoutPairs (n : Nat) (B : List Nat) : List Nat := shortB B (leftPairs n B) n
def heavyOf (B : List Nat) : List Nat := B.filter fun b => !isPair b
theorem Own.pair_place {n : Nat} {B : List Nat} (h : Own n B) (hn : n ≤ 24) {b c p : Nat} (hb : b ∈ B) (hc : c ∈ B) (hp : isPair b = true) (h2 : isPair c = false ∨ b ≠ c) (hbp : b.testBit p = true) : c.testBit p = false := by
  have ne : b ≠ c := by
    rcases h2 with h2 | h2
    · rintro rfl
      rw [hp] at h2
      cases h2
    · exact h2
  obtain ⟨x, y, hxy, hy, hbit, he⟩ := pair_places (Nat.lt_of_lt_of_le (h.lt b hb) (Nat.pow_le_pow_right (by decide) hn)) (beq_iff_eq.mp hp)
  have e := he c (h.still b hb c hc)
  have hlog : b.log2 = y := log2_eq (by rw [hbit]; simp) fun j hj => by
    rw [hbit]
    exact decide_eq_false fun z => by rcases z with z | z <;> omega
  have cy : c.testBit y = false := by
    rw [← hlog]
    exact (h.plain.apart hc hb (Ne.symm ne)).1
  rw [hbit] at hbp
  rcases of_decide_eq_true hbp with rfl | rfl
  · rw [e, cy]
  · exact cy
/-- what is left without the pairs: the heavy words of the basis -/
theorem withoutPairs_eq {n : Nat} {B : List Nat} (h : Own n B) (hn : n ≤ 24) : withoutPairs n B = heavyOf B := by
  have hleft : ∀ i, (leftPairs n B).testBit i = (decide (i < n) && !((pairsOf B).any fun w => w.testBit i)) := fun i => by
    unfold leftPairs
    rw [foldl_andNot_bit, Nat.testBit_two_pow_sub_one]
  have memP : ∀ b, b ∈ pairsOf B ↔ b ∈ B ∧ isPair b = true := fun b => by
    unfold pairsOf
    rw [(upN_perm _).mem_iff, List.mem_filter]
  refine (shortB_plain _ _ _).single (h.plain.filter _) fun x => ?_
  rw [mem_shortB h.lt]
  constructor
  · rintro ⟨hx, e⟩
    refine h.plain.mem_filter hx fun b hb hp => ?_
    have e2 : (x &&& ((2 ^ n - 1) ^^^ leftPairs n B)).testBit b.log2 = false := by rw [e, Nat.zero_testBit]
    have hlog := h.plain.log_lt h.lt hb
    have hany : ((pairsOf B).any fun w => w.testBit b.log2) = true := List.any_eq_true.mpr ⟨b, (memP b).mpr ⟨hb, hp⟩, log2_bit (h.plain.ne hb)⟩
    rw [Nat.testBit_and, Nat.testBit_xor, Nat.testBit_two_pow_sub_one, hleft, hany, decide_eq_true hlog] at e2
    simpa using e2
  · intro hx
    refine ⟨span_sub (fun b hb => mem_span_of_mem (List.mem_filter.mp hb).1) hx, ?_⟩
    apply Nat.eq_of_testBit_eq
    intro i
    rw [Nat.zero_testBit]
    have off : (((2 ^ n - 1) ^^^ leftPairs n B).testBit i) = (decide (i < n) && (pairsOf B).any fun w => w.testBit i) := by
      rw [Nat.testBit_xor, Nat.testBit_two_pow_sub_one, hleft]
      cases decide (i < n) <;> cases ((pairsOf B).any fun w => w.testBit i) <;> rfl
    rw [Nat.testBit_and, off]
    cases q : (pairsOf B).any fun w => w.testBit i with
    | false => simp
    | true =>
      obtain ⟨b, hb, hbi⟩ := List.any_eq_true.mp q
      obtain ⟨hb1, hb2⟩ := (memP b).mp hb
      have : x.testBit i = false := span_ind (p := fun w => w.testBit i = false) (Nat.zero_testBit _) (fun x y a c => by rw [Nat.testBit_xor, a, c]; rfl) (fun c hc => by
        obtain ⟨hc1, hc2⟩ := List.mem_filter.mp hc
        exact h.pair_place hn hb1 hc1 hb2 (.inl (by simpa using hc2)) hbi) hx
      rw [this]
      rfl
/-- the words of weight 4 of what is left make it -/
def foursOf (R : List Nat) : List Nat := (span R).filter fun w => wt w == 4
theorem fours_basis {n m : Nat} {B : List Nat} (h : Own n B) (k : Kinds m B) : plainBasis (foursOf (heavyOf B)) = heavyOf B := by
  refine (plainBasis_plain _).single (h.plain.filter _) fun x => ?_
  rw [mem_plainBasis_span]
  constructor
  · exact span_sub fun b hb => (List.mem_filter.mp hb).1
  · refine span_sub fun b hb => mem_span_of_mem (List.mem_filter.mpr ⟨mem_span_of_mem hb, ?_⟩)
    obtain ⟨h1, h2⟩ := List.mem_filter.mp hb
    rcases k.wts b h1 with z | z
    · rw [z] at h2
      cases h2
    · rw [z]
      rfl
end Ow
namespace Ow
/-! parts -/
def maskStep (w : Nat) (pa : Nat × List Nat) (mask : Nat) : Nat × List Nat := if mask &&& w = 0 then (pa.1, pa.2 ++ [mask]) else (pa.1 ||| mask, pa.2)
def maskWord (found : List Nat) (w : Nat) : List Nat := let r := found.foldl (maskStep w) (w, []); r.2 ++ [r.1]
def masksOf (ws : List Nat) : List Nat := ws.foldl maskWord []
theorem maskStep_fold (w : Nat) : ∀ (found : List Nat) (part : Nat) (ap : List Nat), found.foldl (maskStep w) (part, ap) = ((found.filter fun m => decide (m &&& w ≠ 0)).foldl (fun a b => a ||| b) part, ap ++ found.filter fun m => decide (m &&& w = 0))
  | [], part, ap => by simp
  | m :: found, part, ap => by
    rw [List.foldl_cons]
    by_cases e : m &&& w = 0
    · have : maskStep w (part, ap) m = (part, ap ++ [m]) := by unfold maskStep; rw [if_pos e]
      rw [this, maskStep_fold w found]
      simp [e]
    · have : maskStep w (part, ap) m = (part ||| m, ap) := by unfold maskStep; rw [if_neg e]
      rw [this, maskStep_fold w found]
      simp [e]
theorem maskWord_eq (found : List Nat) (w : Nat) : maskWord found w = (found.filter fun m => decide (m &&& w = 0)) ++ [(found.filter fun m => decide (m &&& w ≠ 0)).foldl (fun a b => a ||| b) w] := by
  unfold maskWord
  rw [maskStep_fold, List.nil_append]
def union (ws : List Nat) : Nat := ws.foldl (fun a b => a ||| b) 0
theorem foldl_or_bit : ∀ (ws : List Nat) (x i : Nat), (ws.foldl (fun a b => a ||| b) x).testBit i = (x.testBit i || ws.any fun w => w.testBit i)
  | [], x, i => by simp
  | w :: ws, x, i => by
    rw [List.foldl_cons, foldl_or_bit ws, Nat.testBit_or, List.any_cons, Bool.or_assoc]
theorem union_bit (ws : List Nat) (i : Nat) : (union ws).testBit i = ws.any fun w => w.testBit i := by
  unfold union
  rw [foldl_or_bit, Nat.zero_testBit, Bool.false_or]
theorem and_zero_bit {a b : Nat} : a &&& b = 0 ↔ ∀ i, (a.testBit i && b.testBit i) = false := by
  constructor
  · intro h i
    rw [← Nat.testBit_and, h, Nat.zero_testBit]
  · intro h
    apply Nat.eq_of_testBit_eq
    intro i
    rw [Nat.testBit_and, Nat.zero_testBit]
    exact h i
/-- pairs apart from all, the others meeting: the masks are the pairs and one more -/
theorem masks_kinds : ∀ {ws : List Nat}, (∀ a ∈ ws, ∀ b ∈ ws, a ≠ b → isPair a = true → a &&& b = 0) → (∀ a ∈ ws, ∀ b ∈ ws, isPair a = false → isPair b = false → a &&& b ≠ 0) → ws.Nodup →
    (masksOf ws).Perm (ws.filter isPair ++ if heavyOf ws = [] then [] else [union (heavyOf ws)]) := by
  intro ws
  have key : ∀ (k : Nat) (ws : List Nat), ws.length = k → (∀ a ∈ ws, ∀ b ∈ ws, a ≠ b → isPair a = true → a &&& b = 0) → (∀ a ∈ ws, ∀ b ∈ ws, isPair a = false → isPair b = false → a &&& b ≠ 0) → ws.Nodup →
    (masksOf ws).Perm (ws.filter isPair ++ if heavyOf ws = [] then [] else [union (heavyOf ws)]) := by
    intro k
    induction k with
    | zero =>
      intro ws hk _ _ _
      rw [List.length_eq_zero_iff.mp hk]
      exact List.Perm.refl _
    | succ k ih =>
      intro ws hk h1 h2 hn
      rcases snoc_cases ws with rfl | ⟨us, w, rfl⟩
      · cases hk
      have hu : us.length = k := by simpa using hk
      have mu : ∀ {a}, a ∈ us → a ∈ us ++ [w] := fun {a} h => List.mem_append_left _ h
      have mw : w ∈ us ++ [w] := List.mem_append_right _ List.mem_cons_self
      have nw : w ∉ us := by
        rw [List.nodup_append] at hn
        intro hm
        exact hn.2.2 w hm w List.mem_cons_self rfl
      have hnu : us.Nodup := (List.nodup_append.mp hn).1
      have IH := ih us hu (fun a ha b hb => h1 a (mu ha) b (mu hb)) (fun a ha b hb => h2 a (mu ha) b (mu hb)) hnu
      have em : masksOf (us ++ [w]) = maskWord (masksOf us) w := by
        unfold masksOf
        rw [List.foldl_append]
        rfl
      have hU : ∀ i, (union (heavyOf us)).testBit i = true → ∃ c ∈ us, isPair c = false ∧ c.testBit i = true := fun i hi => by
        rw [union_bit] at hi
        obtain ⟨c, hc, e⟩ := List.any_eq_true.mp hi
        obtain ⟨hc1, hc2⟩ := List.mem_filter.mp hc
        exact ⟨c, hc1, by simpa using hc2, e⟩
      rw [em, maskWord_eq]
      cases hp : isPair w with
      | true =>
        -- a pair meets no mask
        have none : ∀ m ∈ masksOf us, m &&& w = 0 := fun m hm => by
          rcases List.mem_append.mp (IH.mem_iff.mp hm) with q | q
          · obtain ⟨q1, q2⟩ := List.mem_filter.mp q
            exact h1 m (mu q1) w mw (fun e => nw (e ▸ q1)) q2
          · split at q
            · cases q
            · rw [List.mem_singleton.mp q, Nat.and_comm, and_zero_bit]
              intro i
              cases e : (union (heavyOf us)).testBit i with
              | false => rw [Bool.and_false]
              | true =>
                obtain ⟨c, hc, _, hci⟩ := hU i e
                have := and_zero_bit.mp (h1 w mw c (mu hc) (fun z => nw (z ▸ hc)) hp) i
                rw [hci] at this
                exact this
        have f1 : ((masksOf us).filter fun m => decide (m &&& w = 0)) = masksOf us := List.filter_eq_self.mpr fun m hm => decide_eq_true (none m hm)
        have f2 : ((masksOf us).filter fun m => decide (m &&& w ≠ 0)) = [] := List.filter_eq_nil_iff.mpr fun m hm => by
          rw [decide_eq_true_eq]
          exact fun z => z (none m hm)
        have hh : heavyOf (us ++ [w]) = heavyOf us := by
          unfold heavyOf
          rw [List.filter_append]
          simp [hp]
        rw [f1, f2, hh, List.filter_append]
        have : [w].filter isPair = [w] := by simp [hp]
        rw [this, List.foldl_nil, List.append_assoc]
        refine (IH.append_right [w]).trans ?_
        rw [List.append_assoc]
        exact (List.perm_append_comm).append_left _
      | false =>
        -- it meets the others' union alone
        have hh : heavyOf (us ++ [w]) = heavyOf us ++ [w] := by
          unfold heavyOf
          rw [List.filter_append]
          simp [hp]
        have hne : heavyOf us ++ [w] ≠ [] := by simp
        have hfp : (us ++ [w]).filter isPair = us.filter isPair := by
          rw [List.filter_append]
          simp [hp]
        have hpm : ∀ c ∈ us.filter isPair, c &&& w = 0 := fun c hc => by
          obtain ⟨q1, q2⟩ := List.mem_filter.mp hc
          exact h1 c (mu q1) w mw (fun e => nw (e ▸ q1)) q2
        have g1 : ((us.filter isPair).filter fun m => decide (m &&& w = 0)) = us.filter isPair := List.filter_eq_self.mpr fun m hm => decide_eq_true (hpm m hm)
        have g2 : ((us.filter isPair).filter fun m => decide (m &&& w ≠ 0)) = [] := List.filter_eq_nil_iff.mpr fun m hm => by
          rw [decide_eq_true_eq]
          exact fun z => z (hpm m hm)
        rw [hh, if_neg hne, hfp]
        have p1 := IH.filter fun m => decide (m &&& w = 0)
        have p2 := IH.filter fun m => decide (m &&& w ≠ 0)
        rw [List.filter_append, g1] at p1
        rw [List.filter_append, g2, List.nil_append] at p2
        by_cases hz : heavyOf us = []
        · rw [if_pos hz] at p1 p2
          rw [List.filter_nil, List.append_nil] at p1
          rw [List.filter_nil] at p2
          rw [List.Perm.eq_nil p2, List.foldl_nil, hz]
          have : union ([] ++ [w]) = w := by
            unfold union
            rw [List.nil_append, List.foldl_cons, List.foldl_nil, Nat.zero_or]
          rw [this]
          exact p1.append_right [w]
        · rw [if_neg hz] at p1 p2
          have hUw : union (heavyOf us) &&& w ≠ 0 := fun z => by
            obtain ⟨c, hc⟩ := List.exists_mem_of_ne_nil _ hz
            obtain ⟨hc1, hc2⟩ := List.mem_filter.mp hc
            refine h2 c (mu hc1) w mw (by simpa using hc2) hp ?_
            rw [and_zero_bit] at z ⊢
            intro i
            have := z i
            cases e : c.testBit i with
            | false => rfl
            | true =>
              rw [union_bit, List.any_eq_true.mpr ⟨c, hc, e⟩] at this
              exact this
          have e1 : ([union (heavyOf us)].filter fun m => decide (m &&& w = 0)) = [] := by simp [hUw]
          have e2 : ([union (heavyOf us)].filter fun m => decide (m &&& w ≠ 0)) = [union (heavyOf us)] := by simp [hUw]
          rw [e1, List.append_nil] at p1
          rw [e2] at p2
          rw [List.perm_singleton.mp p2]
          have : [union (heavyOf us)].foldl (fun a b => a ||| b) w = union (heavyOf us ++ [w]) := by
            unfold union
            rw [List.foldl_append]
            show w ||| _ = _ ||| w
            exact Nat.or_comm _ _
          rw [this]
          exact p1.append_right _
  exact key _ ws rfl
theorem Own.apart_pairs {n : Nat} {B : List Nat} (h : Own n B) (hn : n ≤ 24) {a b : Nat} (ha : a ∈ B) (hb : b ∈ B) (ne : a ≠ b) (hp : isPair a = true) : a &&& b = 0 := by
  rw [and_zero_bit]
  intro i
  cases e : a.testBit i with
  | false => rfl
  | true => rw [h.pair_place hn ha hb hp (.inr ne) e]; rfl
theorem Own.masks {n m : Nat} {B : List Nat} (h : Own n B) (hn : n ≤ 24) (k : Kinds m B) : (masksOf B).Perm (B.filter isPair ++ if heavyOf B = [] then [] else [union (heavyOf B)]) :=
  masks_kinds (fun a ha b hb ne hp => h.apart_pairs hn ha hb ne hp) k.meet h.plain.nodup
theorem heavy_length (B : List Nat) : (heavyOf B).length + np B = B.length := by
  unfold heavyOf np
  have := List.length_eq_countP_add_countP isPair (l := B)
  rw [← List.countP_eq_length_filter]
  have e : B.countP (fun b => !isPair b) = B.countP fun a => decide ¬isPair a = true := by
    congr 1
    funext a
    cases isPair a <;> rfl
  rw [e]
  omega
/-- the heavy words cover eight places -/
theorem union_wt {n m : Nat} {B : List Nat} (h : Own n B) (hm : n = 2 * m) (h1 : 1 ≤ m) (h5 : m ≤ 5) (hh : heavyOf B ≠ []) : wt (union (heavyOf B)) = 8 := by
  have hn : n ≤ 24 := by omega
  obtain ⟨K, hp⟩ := h.kinds hm h1 h5
  have hk : np B + 4 = m := by
    rcases K.np with z | z
    · have := heavy_length B
      have := h.half
      exact absurd (List.length_eq_zero_iff.mp (by omega)) hh
    · exact z
  have hlt : union (heavyOf B) < 2 ^ n := Nat.lt_pow_two_of_testBit _ fun i hi => by
    rw [union_bit]
    cases e : (heavyOf B).any fun w => w.testBit i with
    | false => rfl
    | true =>
      obtain ⟨c, hc, e2⟩ := List.any_eq_true.mp e
      rw [off_lt (h.lt c (List.mem_filter.mp hc).1) hi] at e2
      cases e2
  rw [wt_eq hlt hn]
  have e1 : (List.range n).countP (fun p => (union (heavyOf B)).testBit p) = (waysB n (pairFirst B)).countP fun l => (l.drop (np B)).any id := by
    unfold waysB
    rw [List.countP_map]
    refine List.countP_congr fun p _ => ?_
    show _ ↔ ((bitsAt (pairFirst B) p).drop (np B)).any id = true
    have : (bitsAt (pairFirst B) p).drop (np B) = (heavyOf B).map fun b => b.testBit p := by
      unfold bitsAt pairFirst np heavyOf
      rw [List.map_append, List.countP_eq_length_filter]
      rw [List.drop_append_of_le_length (by rw [List.length_map]; exact Nat.le_refl _)]
      rw [List.drop_of_length_le (by rw [List.length_map]; exact Nat.le_refl _), List.nil_append]
    rw [this, union_bit, List.any_map]
    exact Iff.rfl
  rw [e1, hp.countP_eq]
  rcases (by omega : (m = 4 ∧ np B = 0) ∨ (m = 5 ∧ np B = 1)) with ⟨rfl, e⟩ | ⟨rfl, e⟩
  · rw [e]
    decide +kernel
  · rw [e]
    decide +kernel
/-- how long the parts are, told -/
def sizesOf (n : Nat) (B : List Nat) : List Nat := upN ((masksOf B).map wt ++ (spots ((2 ^ n - 1) ^^^ union (masksOf B))).map fun _ => 1)
def sizesDue (m k : Nat) : List Nat := List.replicate k 2 ++ if k = m then [] else [8]
theorem sizes_eq {n m : Nat} {B : List Nat} (h : Own n B) (hm : n = 2 * m) (h1 : 1 ≤ m) (h5 : m ≤ 5) : sizesOf n B = upN (sizesDue m (np B)) := by
  have hn : n ≤ 24 := by omega
  obtain ⟨K, _⟩ := h.kinds hm h1 h5
  have hM := h.masks hn K
  have hcov : union (masksOf B) = 2 ^ n - 1 := by
    apply Nat.eq_of_testBit_eq
    intro i
    rw [union_bit, Nat.testBit_two_pow_sub_one]
    have e1 : ((masksOf B).any fun w => w.testBit i) = B.any fun w => w.testBit i := by
      rw [Bool.eq_iff_iff, List.any_eq_true, List.any_eq_true]
      constructor
      · rintro ⟨x, hx, e⟩
        rcases List.mem_append.mp (hM.mem_iff.mp hx) with q | q
        · exact ⟨x, (List.mem_filter.mp q).1, e⟩
        · split at q
          · cases q
          · rw [List.mem_singleton.mp q, union_bit] at e
            obtain ⟨c, hc, e2⟩ := List.any_eq_true.mp e
            exact ⟨c, (List.mem_filter.mp hc).1, e2⟩
      · rintro ⟨x, hx, e⟩
        cases hp : isPair x with
        | true => exact ⟨x, hM.mem_iff.mpr (List.mem_append_left _ (List.mem_filter.mpr ⟨hx, hp⟩)), e⟩
        | false =>
          have hxh : x ∈ heavyOf B := List.mem_filter.mpr ⟨hx, by rw [hp]; rfl⟩
          have hne : heavyOf B ≠ [] := List.ne_nil_of_mem hxh
          refine ⟨union (heavyOf B), hM.mem_iff.mpr (List.mem_append_right _ ?_), ?_⟩
          · rw [if_neg hne]
            exact List.mem_cons_self
          · rw [union_bit]
            exact List.any_eq_true.mpr ⟨x, hxh, e⟩
    rw [e1]
    by_cases hi : i < n
    · rw [decide_eq_true hi]
      obtain ⟨b, hb, e⟩ := h.cover hn hi
      exact List.any_eq_true.mpr ⟨b, hb, e⟩
    · rw [decide_eq_false hi]
      rw [List.any_eq_false]
      intro b hb
      rw [off_lt (h.lt b hb) (by omega)]
      exact Bool.false_ne_true
  unfold sizesOf
  rw [hcov, Nat.xor_self]
  have e0 : spots 0 = [] := by decide
  rw [e0, List.map_nil, List.append_nil]
  refine upN_congr.mpr ((hM.map wt).trans (List.Perm.of_eq ?_))
  unfold sizesDue
  rw [List.map_append]
  congr 1
  · have hl : (B.filter isPair).length = np B := by unfold np; rw [List.countP_eq_length_filter]
    rw [← hl]
    refine List.eq_replicate_iff.mpr ⟨by rw [List.length_map], fun x hx => ?_⟩
    obtain ⟨b, hb, rfl⟩ := List.mem_map.mp hx
    exact beq_iff_eq.mp (List.mem_filter.mp hb).2
  · have hl := heavy_length B
    have hh := h.half
    by_cases z : heavyOf B = []
    · rw [if_pos z, if_pos (by rw [z] at hl; simp at hl; omega)]
      rfl
    · have : 0 < (heavyOf B).length := List.length_pos_iff.mpr z
      rw [if_neg z, if_neg (by omega), List.map_singleton, union_wt h hm h1 h5 z]
end Ow
namespace Ow
/-! lots of fours -/
def lotOf (R : List Nat) (mask : Nat) : Nat × Nat × List Nat := ((spots mask).length, (R.filter fun w => decide (w &&& mask ≠ 0)).length, spots mask)
theorem lots_none {B : List Nat} (h : heavyOf B = []) : masksOf (heavyOf B) = [] := by
  rw [h]
  rfl
theorem lots_one {n m : Nat} {B : List Nat} (h : Own n B) (hm : n = 2 * m) (h1 : 1 ≤ m) (h5 : m ≤ 5) (hh : heavyOf B ≠ []) :
    masksOf (heavyOf B) = [union (heavyOf B)] ∧ lotOf (heavyOf B) (union (heavyOf B)) = (8, 4, spots (union (heavyOf B))) := by
  have hn : n ≤ 24 := by omega
  obtain ⟨K, _⟩ := h.kinds hm h1 h5
  have sub : ∀ {a}, a ∈ heavyOf B → a ∈ B ∧ isPair a = false := fun {a} ha => by
    obtain ⟨x, y⟩ := List.mem_filter.mp ha
    exact ⟨x, by simpa using y⟩
  have hM := masks_kinds (ws := heavyOf B) (fun a ha b hb ne hp => by rw [(sub ha).2] at hp; cases hp) (fun a ha b hb p q => K.meet a (sub ha).1 b (sub hb).1 p q) (h.plain.filter _).nodup
  have e1 : (heavyOf B).filter isPair = [] := List.filter_eq_nil_iff.mpr fun a ha => by rw [(sub ha).2]; exact Bool.false_ne_true
  have e2 : heavyOf (heavyOf B) = heavyOf B := by
    unfold heavyOf
    rw [List.filter_filter]
    congr 1
    funext b
    exact Bool.and_self _
  rw [e1, e2, if_neg hh, List.nil_append] at hM
  refine ⟨List.perm_singleton.mp hM, ?_⟩
  unfold lotOf
  rw [spots_length, union_wt h hm h1 h5 hh]
  congr 2
  have e3 : ((heavyOf B).filter fun w => decide (w &&& union (heavyOf B) ≠ 0)) = heavyOf B := List.filter_eq_self.mpr fun w hw => by
    refine decide_eq_true fun z => h.plain.ne (sub hw).1 ?_
    apply Nat.eq_of_testBit_eq
    intro i
    rw [Nat.zero_testBit]
    have := and_zero_bit.mp z i
    cases e : w.testBit i with
    | false => rfl
    | true =>
      rw [e, union_bit, List.any_eq_true.mpr ⟨w, hw, e⟩] at this
      cases this
  rw [e3]
  have := heavy_length B
  have hhalf := h.half
  have : 0 < (heavyOf B).length := List.length_pos_iff.mpr hh
  rcases K.np with z | z <;> omega
/-- the places without pairs -/
theorem union_heavy_bit {n m : Nat} {B : List Nat} (h : Own n B) (hn : n ≤ 24) {i : Nat} (hi : i < n) : (union (heavyOf B)).testBit i = !((pairsOf B).any fun w => w.testBit i) := by
  rw [union_bit]
  have memP : ∀ b, b ∈ pairsOf B ↔ b ∈ B ∧ isPair b = true := fun b => by
    unfold pairsOf
    rw [(upN_perm _).mem_iff, List.mem_filter]
  cases e : (pairsOf B).any fun w => w.testBit i with
  | true =>
    obtain ⟨b, hb, e1⟩ := List.any_eq_true.mp e
    obtain ⟨hb1, hb2⟩ := (memP b).mp hb
    rw [Bool.not_true, List.any_eq_false]
    intro c hc
    obtain ⟨x, y⟩ := List.mem_filter.mp hc
    rw [h.pair_place hn hb1 x hb2 (.inl (by simpa using y)) e1]
    exact Bool.false_ne_true
  | false =>
    obtain ⟨b, hb, e1⟩ := h.cover hn hi
    refine List.any_eq_true.mpr ⟨b, List.mem_filter.mpr ⟨hb, ?_⟩, e1⟩
    cases hp : isPair b with
    | false => rfl
    | true =>
      have := List.any_eq_false.mp e b ((memP b).mpr ⟨hb, hp⟩)
      exact absurd e1 this
theorem union_heavy_lt {n : Nat} {B : List Nat} (h : Own n B) : union (heavyOf B) < 2 ^ n := Nat.lt_pow_two_of_testBit _ fun i hi => by
  rw [union_bit, List.any_eq_false]
  intro c hc
  rw [off_lt (h.lt c (List.mem_filter.mp hc).1) hi]
  exact Bool.false_ne_true
theorem union_led {n : Nat} {B C σ : List Nat} (hB : Own n B) (hC : Own n C) (hn : n ≤ 24) (hs : IsSeq n σ) (hp : ((span B).map (led σ)).Perm (span C)) : led σ (union (heavyOf B)) = union (heavyOf C) := by
  refine led_ext hs (led_lt hs _) (union_heavy_lt hC) fun p hpn => ?_
  rw [led_bit hs _ hpn, union_heavy_bit hB hn hpn (m := 0), union_heavy_bit hC hn (hs.lt hpn) (m := 0)]
  congr 1
  have hpp := pairs_led hB hC hn hs hp
  rw [Bool.eq_iff_iff, List.any_eq_true, List.any_eq_true]
  constructor
  · rintro ⟨w, hw, e⟩
    exact ⟨led σ w, hpp.mem_iff.mp (List.mem_map.mpr ⟨w, hw, rfl⟩), by rw [led_bit hs _ hpn, e]⟩
  · rintro ⟨x, hx, e⟩
    obtain ⟨w, hw, rfl⟩ := List.mem_map.mp (hpp.mem_iff.mpr hx)
    exact ⟨w, hw, by rw [led_bit hs _ hpn] at e; exact e⟩
theorem spots_sorted (w : Nat) : (spots w).Pairwise fun a b => a ≤ b := (List.pairwise_lt_range.filter _).imp fun h => Nat.le_of_lt h
theorem spots_led {n : Nat} {σ : List Nat} (hs : IsSeq n σ) (hn : n ≤ 24) {w : Nat} (hw : w < 2 ^ n) : upN ((spots w).map fun p => σ.getD p 0) = spots (led σ w) := by
  refine (upN_of ?_ (spots_sorted _)).symm
  have e : (spots w).map (fun p => σ.getD p 0) = ledSpots σ w := by
    unfold ledSpots spots
    rw [hs.len]
    congr 1
    obtain ⟨k, hk⟩ : ∃ k, 24 = n + k := ⟨24 - n, by omega⟩
    rw [hk, List.range_add, List.filter_append]
    have z : ((List.range k).map (fun x => n + x)).filter (fun p => w.testBit p) = [] := List.filter_eq_nil_iff.mpr fun p hp => by
      obtain ⟨j, _, rfl⟩ := List.mem_map.mp hp
      rw [off_lt hw (by omega)]
      exact Bool.false_ne_true
    rw [z, List.append_nil]
  rw [e]
  refine (List.perm_ext_iff_of_nodup (spots_nodup _) (ledSpots_nodup hs w)).mpr fun q => ?_
  rw [mem_spots]
  unfold led
  rw [wordOf_bit (ledSpots_nodup hs w), decide_eq_true_eq]
  constructor
  · exact fun z => z.2
  · intro z
    obtain ⟨p, hp, _, rfl⟩ := (mem_ledSpots hs).mp z
    exact ⟨Nat.lt_of_lt_of_le (hs.lt hp) hn, z⟩
/-! light bases -/
theorem basis_more {B P : List Nat} (hB : Plain B) (hl : P.length < B.length) : ∃ w ∈ span B, w ∉ span P := by
  refine Classical.byContradiction fun hn => ?_
  have := hB.length_le (C := P) fun b hb => Classical.byContradiction fun q => hn ⟨b, mem_span_of_mem hb, q⟩
  omega
theorem plainBasis_snoc (ws : List Nat) (w : Nat) : plainBasis (ws ++ [w]) = withWord (plainBasis ws) w := by
  unfold plainBasis
  rw [List.foldl_append]
  rfl
theorem IsBasis.self {B : List Nat} (h : Plain B) : IsBasis B B := ⟨fun b hb => mem_span_of_mem hb, rfl, by rw [plainBasis_self h]⟩
theorem IsBasis.nodup {B bs : List Nat} (h : IsBasis B bs) : (Ow.span bs).Nodup := indep_nodup h.ind
theorem IsBasis.perm {B bs : List Nat} (h : IsBasis B bs) (hB : Plain B) : (Ow.span bs).Perm (Ow.span B) :=
  (List.perm_ext_iff_of_nodup h.nodup hB.span_nodup).mpr fun a => (h.span hB).symm
/-! alike rooms: the search finds -/
def searchAll (n : Nat) (B C bs : List Nat) : Option (List Nat) := ext n (span C) bs bs.length []
theorem search_finds {n m : Nat} {B C bs : List Nat} (hB : Own n B) (hC : Own n C) (hm : n = 2 * m) (h1 : 1 ≤ m) (h5 : m ≤ 5) (hb : IsBasis B bs) (e : np B = np C) : ext n (span C) bs bs.length [] ≠ none := by
  intro hx
  have hn : n ≤ 24 := by omega
  have hw := ways_alike hB hC hm h1 h5 e
  have hmem : ∀ w ∈ bs, w ∈ span (pairFirst B) := fun w hw => (span_perm (pairFirst_perm B)).mpr (hb.mem w hw)
  obtain ⟨vs, l, hv, hp⟩ := chain_of hw hmem
  refine ext_none hn (fun c hc => span_lt hC.lt hc) (hb.lt hB.lt) (us := []) (d := bs.length) (by simp) hx vs l (fun v hv' => (span_perm (pairFirst_perm C)).mp (hv v hv')) ?_
  exact hp
theorem search_leads {n m : Nat} {B C bs ws : List Nat} (hB : Own n B) (hC : Own n C) (hm : n = 2 * m) (h1 : 1 ≤ m) (hb : IsBasis B bs) (h : ext n (span C) bs bs.length [] = some ws) :
    (waysN n ws).Perm (waysN n bs) ∧ ws.length = bs.length ∧ IsSeq n (seqOf (waysN n ws) (waysN n bs)) ∧ ((span B).map (led (seqOf (waysN n ws) (waysN n bs)))).Perm (span C) := by
  obtain ⟨ts, e, l, hm2, hp⟩ := ext_some (us := []) (by simp) h
  rw [List.nil_append] at e
  subst e
  have hpos : 0 < bs.length := by
    have := hB.half
    rw [hb.len]
    omega
  have hs : B.length = C.length := by
    have := hB.half
    have := hC.half
    omega
  obtain ⟨a, b⟩ := chain_led hB.plain hB.lt hC.lt hs hb l hm2 (hp hpos)
  exact ⟨hp hpos, l, a, b⟩
/-- two own rooms with as many pairs are led to one another by some sequence -/
theorem alike_seq {n m : Nat} {B C : List Nat} (hB : Own n B) (hC : Own n C) (hm : n = 2 * m) (h1 : 1 ≤ m) (h5 : m ≤ 5) (e : np B = np C) : ∃ σ, IsSeq n σ ∧ ((span B).map (led σ)).Perm (span C) := by
  have hb := IsBasis.self hB.plain
  cases q : ext n (span C) B B.length [] with
  | none => exact absurd q (search_finds hB hC hm h1 h5 hb e)
  | some ws =>
    obtain ⟨_, _, a, b⟩ := search_leads hB hC hm h1 hb q
    exact ⟨_, a, b⟩
theorem weights_alike {n m : Nat} {B C : List Nat} (hB : Own n B) (hC : Own n C) (hm : n = 2 * m) (h1 : 1 ≤ m) (h5 : m ≤ 5) (e : np B = np C) : upN ((span B).map wt) = upN ((span C).map wt) := by
  obtain ⟨σ, hs, hp⟩ := alike_seq hB hC hm h1 h5 e
  refine upN_congr.mpr (List.Perm.trans (List.Perm.of_eq ?_) (hp.map wt))
  rw [List.map_map]
  exact List.map_congr_left fun w hw => (led_wt hs (by omega) (span_lt hB.lt hw)).symm
end Ow
namespace Ow
/-! counting full chains -/
def tuples (C : List Nat) : Nat → List (List Nat)
  | 0 => [[]]
  | d + 1 => C.flatMap fun w => (tuples C d).map fun vs => w :: vs
theorem mem_tuples {C : List Nat} : ∀ {d : Nat} {vs : List Nat}, vs ∈ tuples C d ↔ vs.length = d ∧ ∀ v ∈ vs, v ∈ C
  | 0, vs => by
    unfold tuples
    rw [List.mem_singleton]
    constructor
    · rintro rfl
      exact ⟨rfl, fun v hv => nomatch hv⟩
    · exact fun h => List.length_eq_zero_iff.mp h.1
  | d + 1, vs => by
    unfold tuples
    rw [List.mem_flatMap]
    constructor
    · rintro ⟨w, hw, h⟩
      obtain ⟨us, hu, rfl⟩ := List.mem_map.mp h
      obtain ⟨a, b⟩ := mem_tuples.mp hu
      refine ⟨by rw [List.length_cons, a], fun v hv => ?_⟩
      rcases List.mem_cons.mp hv with rfl | hv
      · exact hw
      · exact b v hv
    · rintro ⟨hl, hm⟩
      match vs, hl with
      | w :: us, hl => exact ⟨w, hm w List.mem_cons_self, List.mem_map.mpr ⟨us, mem_tuples.mpr ⟨Nat.succ.inj hl, fun v hv => hm v (List.mem_cons_of_mem _ hv)⟩, rfl⟩⟩
theorem tuples_nodup {C : List Nat} (h : C.Nodup) : ∀ d, (tuples C d).Nodup
  | 0 => by
    unfold tuples
    exact List.pairwise_singleton _ _
  | d + 1 => by
    unfold tuples
    have ih := tuples_nodup h d
    have gen : ∀ (D : List Nat), D.Nodup → (D.flatMap fun w => (tuples C d).map fun vs => w :: vs).Nodup := by
      intro D
      induction D with
      | nil =>
        intro _
        exact List.Pairwise.nil
      | cons a D ihD =>
        intro hD
        rw [List.flatMap_cons, List.nodup_append]
        refine ⟨?_, ihD (List.nodup_cons.mp hD).2, ?_⟩
        · unfold List.Nodup
          rw [List.pairwise_map]
          exact List.Pairwise.imp (fun h e => h (List.cons.inj e).2) ih
        · intro x hx y hy e
          obtain ⟨us, _, rfl⟩ := List.mem_map.mp hx
          obtain ⟨w, hw, hy2⟩ := List.mem_flatMap.mp hy
          obtain ⟨vs, _, rfl⟩ := List.mem_map.mp hy2
          rw [(List.cons.inj e).1] at hD
          exact (List.nodup_cons.mp hD).1 hw
    exact gen C h
def fullB (n : Nat) (bs us vs : List Nat) : Bool := (waysN n (us ++ vs)).isPerm (waysN n bs)
def cnt (n : Nat) (C bs : List Nat) (d : Nat) (us : List Nat) : Nat := (tuples C d).countP (fullB n bs us)
theorem cnt_succ (n : Nat) (C bs : List Nat) (d : Nat) (us : List Nat) : cnt n C bs (d + 1) us = (C.map fun w => cnt n C bs d (us ++ [w])).sum := by
  unfold cnt
  rw [show tuples C (d + 1) = C.flatMap fun w => (tuples C d).map fun vs => w :: vs from rfl, List.countP_flatMap]
  congr 1
  apply List.map_congr_left
  intro w _
  show List.countP (fullB n bs us) ((tuples C d).map fun vs => w :: vs) = _
  rw [List.countP_map]
  congr 1
  funext vs
  show fullB n bs us (w :: vs) = fullB n bs (us ++ [w]) vs
  unfold fullB
  rw [List.append_assoc]
  rfl
theorem cnt_pos {n : Nat} {C bs : List Nat} {d : Nat} {us : List Nat} : 0 < cnt n C bs d us ↔ ∃ vs, vs.length = d ∧ (∀ v ∈ vs, v ∈ C) ∧ (waysN n (us ++ vs)).Perm (waysN n bs) := by
  unfold cnt
  rw [List.countP_pos_iff]
  constructor
  · rintro ⟨vs, hv, h⟩
    obtain ⟨a, b⟩ := mem_tuples.mp hv
    exact ⟨vs, a, b, List.isPerm_iff.mp h⟩
  · rintro ⟨vs, a, b, h⟩
    exact ⟨vs, mem_tuples.mpr ⟨a, b⟩, List.isPerm_iff.mpr h⟩
/-- an injection of tuples -/
theorem countP_inj {α β : Type} {l : List α} {m : List β} {p : α → Bool} {q : β → Bool} (f : α → β) (hl : l.Nodup) (hm : ∀ x ∈ l, p x = true → f x ∈ m ∧ q (f x) = true) (hi : ∀ x ∈ l, ∀ y ∈ l, p x = true → p y = true → f x = f y → x = y) : l.countP p ≤ m.countP q := by
  rw [List.countP_eq_length_filter, List.countP_eq_length_filter, ← List.length_map (f := f)]
  refine List.Nodup.length_le_of_subset ?_ fun y hy => ?_
  · unfold List.Nodup
    rw [List.pairwise_map]
    refine List.Pairwise.imp_of_mem ?_ (List.Pairwise.filter _ hl)
    intro a b ha hb ne e
    obtain ⟨a1, a2⟩ := List.mem_filter.mp ha
    obtain ⟨b1, b2⟩ := List.mem_filter.mp hb
    exact ne (hi a a1 b b1 a2 b2 e)
  · obtain ⟨x, hx, rfl⟩ := List.mem_map.mp hy
    obtain ⟨x1, x2⟩ := List.mem_filter.mp hx
    obtain ⟨m1, m2⟩ := hm x x1 x2
    exact List.mem_filter.mpr ⟨m1, m2⟩
theorem ways_led {n : Nat} {σ : List Nat} (hs : IsSeq n σ) (xs : List Nat) : (waysN n (xs.map (led σ))).Perm (waysN n xs) := by
  have e : waysN n xs = (List.range n).map fun p => wayN (xs.map (led σ)) (σ.getD p 0) := by
    unfold waysN
    apply List.map_congr_left
    intro p hp
    rw [wayN_eq, wayN_eq]
    congr 1
    unfold bitsAt
    rw [List.map_map]
    apply List.map_congr_left
    intro x _
    exact (led_bit hs x (List.mem_range.mp hp)).symm
  rw [e]
  have e2 : (List.range n).map (fun p => wayN (xs.map (led σ)) (σ.getD p 0)) = (σ.map fun q => wayN (xs.map (led σ)) q) := by
    have := map_range_getD (fun q => wayN (xs.map (led σ)) q) σ
    rw [hs.len] at this
    exact this
  rw [e2]
  exact (List.Perm.map _ hs).symm
theorem cnt_le {n : Nat} {σ C bs us : List Nat} {d : Nat} (hs : IsSeq n σ) (hC : C.Nodup) (hCl : ∀ c ∈ C, c < 2 ^ n) (hm : ∀ c ∈ C, led σ c ∈ C) : cnt n C bs d us ≤ cnt n C bs d (us.map (led σ)) := by
  unfold cnt
  refine countP_inj (fun vs => vs.map (led σ)) (tuples_nodup hC d) (fun vs hv h => ?_) fun vs hv ws hw _ _ e => ?_
  · obtain ⟨a, b⟩ := mem_tuples.mp hv
    refine ⟨mem_tuples.mpr ⟨by rw [List.length_map, a], fun x hx => ?_⟩, ?_⟩
    · obtain ⟨y, hy, rfl⟩ := List.mem_map.mp hx
      exact hm y (b y hy)
    · unfold fullB at h ⊢
      rw [← List.map_append]
      exact List.isPerm_iff.mpr ((ways_led hs _).trans (List.isPerm_iff.mp h))
  · have hv' := (mem_tuples.mp hv).2
    have hw' := (mem_tuples.mp hw).2
    have e' : vs.map (led σ) = ws.map (led σ) := e
    have key : ∀ {vs ws : List Nat}, (∀ v ∈ vs, v ∈ C) → (∀ v ∈ ws, v ∈ C) → vs.map (led σ) = ws.map (led σ) → vs = ws := by
      intro vs
      induction vs with
      | nil =>
        intro ws _ _ e
        cases ws with
        | nil => rfl
        | cons _ _ => cases e
      | cons v vs ih =>
        intro ws h1 h2 e
        cases ws with
        | nil => cases e
        | cons w ws =>
          obtain ⟨e1, e2⟩ := List.cons.inj e
          rw [led_inj hs (hCl v (h1 v List.mem_cons_self)) (hCl w (h2 w List.mem_cons_self)) e1, ih (fun x hx => h1 x (List.mem_cons_of_mem _ hx)) (fun x hx => h2 x (List.mem_cons_of_mem _ hx)) e2]
    exact key hv' hw' e'
/-- a full chain tells a way of the room into itself that takes the basis to the chain -/
theorem chain_auto {n : Nat} {bs ws C : List Nat} (hn : C.Nodup) (hC : ∀ x, x ∈ C ↔ x ∈ span bs) (hbl : ∀ b ∈ bs, b < 2 ^ n) (hl : ws.length = bs.length) (hw : ∀ w ∈ ws, w ∈ C) (h : (waysN n ws).Perm (waysN n bs)) :
    ∃ σ, IsSeq n σ ∧ bs.map (led σ) = ws ∧ ∀ c ∈ C, led σ c ∈ C := by
  have hq : IsSeq n (seqOf (waysN n ws) (waysN n bs)) := by
    have := seqOf_seq h
    rw [waysN_length] at this
    exact this
  have hwl : ∀ w ∈ ws, w < 2 ^ n := fun w hw' => span_lt hbl ((hC w).mp (hw w hw'))
  have e : bs.map (led (seqOf (waysN n ws) (waysN n bs))) = ws := by
    apply List.ext_getElem
    · rw [List.length_map, hl]
    · intro j h1 h2
      have hj : j < bs.length := by simpa using h1
      have := seqOf_led hl h hwl hj
      rw [show bs.getD j 0 = bs[j] by simp [hj], show ws.getD j 0 = ws[j] by simp [h2]] at this
      rw [List.getElem_map]
      exact this
  refine ⟨_, hq, e, fun c hc => ?_⟩
  rw [hC]
  refine led_span hq (B := bs) (fun b hb => ?_) ((hC c).mp hc)
  rw [← hC]
  refine hw _ ?_
  have : led (seqOf (waysN n ws) (waysN n bs)) b ∈ bs.map (led (seqOf (waysN n ws) (waysN n bs))) := List.mem_map.mpr ⟨b, hb, rfl⟩
  rw [e] at this
  exact this
theorem map_span_mem {n : Nat} {σ bs : List Nat} (hs : IsSeq n σ) : ∀ {x}, x ∈ span bs → led σ x ∈ span (bs.map (led σ)) :=
  fun {x} hx => led_span hs (fun b hb => mem_span_of_mem (List.mem_map.mpr ⟨b, hb, rfl⟩)) hx
/-- the number of full chains that go on from the image of a beginning is the beginning's -/
theorem cnt_same {n : Nat} {bs ws us C : List Nat} {i d : Nat} (hn : C.Nodup) (hC : ∀ x, x ∈ C ↔ x ∈ span bs) (hbl : ∀ b ∈ bs, b < 2 ^ n) (hl : ws.length = bs.length) (hw : ∀ w ∈ ws, w ∈ C) (h : (waysN n ws).Perm (waysN n bs)) : cnt n C bs d (ws.take i) = cnt n C bs d (bs.take i) := by
  have hCl : ∀ c ∈ C, c < 2 ^ n := fun c hc => span_lt hbl ((hC c).mp hc)
  have hwl : ∀ w ∈ ws, w < 2 ^ n := fun w hw' => hCl w (hw w hw')
  obtain ⟨σ, s1, s2, s3⟩ := chain_auto hn hC hbl hl hw h
  have up : cnt n C bs d (bs.take i) ≤ cnt n C bs d (ws.take i) := by
    have := cnt_le (bs := bs) (us := bs.take i) (d := d) s1 hn hCl s3
    rw [List.map_take, s2] at this
    exact this
  -- the room is also made of ws
  have hCw : ∀ x, x ∈ C ↔ x ∈ span ws := by
    have hp : (C.map (led σ)).Perm C := by
      refine perm_of_sub ?_ (fun x hx => ?_) (by rw [List.length_map]; exact Nat.le_refl _)
      · unfold List.Nodup
        rw [List.pairwise_map]
        refine List.Pairwise.imp_of_mem ?_ hn
        intro a b ha hb ne e
        exact ne (led_inj s1 (hCl a ha) (hCl b hb) e)
      · obtain ⟨c, hc, rfl⟩ := List.mem_map.mp hx
        exact s3 c hc
    intro x
    constructor
    · intro hx
      obtain ⟨c, hc, rfl⟩ := List.mem_map.mp (hp.mem_iff.mpr hx)
      rw [← s2]
      exact map_span_mem s1 ((hC c).mp hc)
    · intro hx
      rw [hC]
      exact span_sub (fun w hw' => (hC w).mp (hw w hw')) hx
  obtain ⟨τ, t1, t2, t3⟩ := chain_auto (ws := bs) (bs := ws) hn hCw hwl hl.symm (fun b hb => (hC b).mpr (mem_span_of_mem hb)) h.symm
  have down : cnt n C bs d (ws.take i) ≤ cnt n C bs d (bs.take i) := by
    have := cnt_le (bs := bs) (us := ws.take i) (d := d) t1 hn hCl t3
    rw [List.map_take, t2] at this
    exact this
  exact Nat.le_antisymm down up
/-- how many words may stand next -/
def cAt (n : Nat) (C bs : List Nat) (i : Nat) : Nat := ((C.filter (okStep n bs (bs.take i))).filter fun w => (ext n C bs (bs.length - i - 1) (bs.take i ++ [w])).isSome).length
theorem sum_ite {α : Type} (p : α → Bool) (k : Nat) : ∀ l : List α, (l.map fun x => if p x then k else 0).sum = (l.filter p).length * k
  | [] => by simp
  | a :: l => by
    rw [List.map_cons, List.sum_cons, sum_ite p k l, List.filter_cons]
    cases p a with
    | true =>
      rw [if_pos rfl, if_pos rfl, List.length_cons, Nat.succ_mul]
      exact Nat.add_comm _ _
    | false => simp
theorem cnt_step {n : Nat} {bs C : List Nat} {i : Nat} (hn24 : n ≤ 24) (hn : C.Nodup) (hC : ∀ x, x ∈ C ↔ x ∈ span bs) (hbl : ∀ b ∈ bs, b < 2 ^ n) (hi : i < bs.length) :
    cnt n C bs (bs.length - i) (bs.take i) = cAt n C bs i * cnt n C bs (bs.length - (i + 1)) (bs.take (i + 1)) := by
  have hCl : ∀ c ∈ C, c < 2 ^ n := fun c hc => span_lt hbl ((hC c).mp hc)
  have hd : bs.length - i = (bs.length - i - 1) + 1 := by omega
  have hti : (bs.take i).length = i := by rw [List.length_take]; omega
  rw [hd, cnt_succ]
  have e : (C.map fun w => cnt n C bs (bs.length - i - 1) (bs.take i ++ [w])) = C.map fun w => if (okStep n bs (bs.take i) w && (ext n C bs (bs.length - i - 1) (bs.take i ++ [w])).isSome) then cnt n C bs (bs.length - (i + 1)) (bs.take (i + 1)) else 0 := by
    apply List.map_congr_left
    intro w hw
    by_cases hp : 0 < cnt n C bs (bs.length - i - 1) (bs.take i ++ [w])
    · obtain ⟨vs, l, hv, hper⟩ := cnt_pos.mp hp
      have hper' : (waysN n (bs.take i ++ w :: vs)).Perm (waysN n bs) := by
        rw [List.append_assoc] at hper
        exact hper
      have ok := okStep_of (us := bs.take i) (vs := vs) (w := w) hn24 (hCl w hw) hbl (by rw [hti, l]; omega) hper'
      have ex : (ext n C bs (bs.length - i - 1) (bs.take i ++ [w])).isSome = true := by
        cases q : ext n C bs (bs.length - i - 1) (bs.take i ++ [w]) with
        | some _ => rfl
        | none => exact absurd hper (ext_none hn24 hCl hbl (us := bs.take i ++ [w]) (d := bs.length - i - 1) (by rw [List.length_append, hti, List.length_singleton]; omega) q vs l hv)
      rw [ok, ex, if_pos (show (true && true) = true from rfl)]
      -- the chain takes the beginning there
      have hlen : (bs.take i ++ w :: vs).length = bs.length := by rw [List.length_append, hti, List.length_cons, l]; omega
      have := cnt_same (i := i + 1) (d := bs.length - (i + 1)) (us := []) hn hC hbl hlen (fun x hx => by
        rcases List.mem_append.mp hx with hx | hx
        · exact (hC x).mpr (mem_span_of_mem (List.mem_of_mem_take hx))
        · rcases List.mem_cons.mp hx with rfl | hx
          · exact hw
          · exact hv x hx) hper'
      rw [← this]
      have et : (bs.take i ++ w :: vs).take (i + 1) = bs.take i ++ [w] := by
        rw [List.take_append, List.take_of_length_le (by rw [hti]; omega), hti]
        congr 1
        rw [show i + 1 - i = 1 by omega]
        rfl
      rw [et]
      rfl
    · have z : cnt n C bs (bs.length - i - 1) (bs.take i ++ [w]) = 0 := by omega
      rw [z]
      split
      · rename_i q
        rw [Bool.and_eq_true] at q
        obtain ⟨q1, q2⟩ := q
        obtain ⟨vs, hvs⟩ := Option.isSome_iff_exists.mp q2
        exfalso
        obtain ⟨ts, e1, e2, e3, e4⟩ := ext_some (us := bs.take i ++ [w]) (by rw [List.length_append, hti, List.length_singleton]; omega) hvs
        refine hp (cnt_pos.mpr ⟨ts, e2, e3, ?_⟩)
        by_cases hd0 : 0 < bs.length - i - 1
        · rw [← e1]
          exact e4 hd0
        · have : ts = [] := List.length_eq_zero_iff.mp (by omega)
          subst this
          rw [List.append_nil]
          unfold okStep at q1
          rw [Bool.and_eq_true, beq_iff_eq, beq_iff_eq] at q1
          have := upN_congr.mp q1.2
          rw [hti, show i + 1 = bs.length by omega, List.take_length] at this
          exact this
      · rfl
  rw [e, sum_ite]
  congr 1
  unfold cAt
  rw [List.filter_filter]
  congr 2
  funext w
  exact Bool.and_comm _ _
def prodC (n : Nat) (C bs : List Nat) : Nat → Nat
  | 0 => 1
  | i + 1 => prodC n C bs i * cAt n C bs i
theorem cnt_prod {n : Nat} {bs C : List Nat} (hn24 : n ≤ 24) (hn : C.Nodup) (hC : ∀ x, x ∈ C ↔ x ∈ span bs) (hbl : ∀ b ∈ bs, b < 2 ^ n) : ∀ i, i ≤ bs.length → cnt n C bs bs.length [] = prodC n C bs i * cnt n C bs (bs.length - i) (bs.take i)
  | 0, _ => by
    show _ = 1 * _
    rw [Nat.one_mul, List.take_zero, Nat.sub_zero]
  | i + 1, hi => by
    rw [cnt_prod hn24 hn hC hbl i (by omega), cnt_step hn24 hn hC hbl (by omega)]
    show _ = prodC n C bs i * cAt n C bs i * _
    rw [Nat.mul_assoc]
theorem cnt_all {n : Nat} {bs C : List Nat} (hn24 : n ≤ 24) (hn : C.Nodup) (hC : ∀ x, x ∈ C ↔ x ∈ span bs) (hbl : ∀ b ∈ bs, b < 2 ^ n) : cnt n C bs bs.length [] = prodC n C bs bs.length := by
  rw [cnt_prod hn24 hn hC hbl bs.length (Nat.le_refl _), Nat.sub_self, List.take_length]
  have : cnt n C bs 0 bs = 1 := by
    unfold cnt tuples fullB
    rw [List.countP_cons, List.countP_nil, List.append_nil]
    have : (waysN n bs).isPerm (waysN n bs) = true := List.isPerm_iff.mpr (List.Perm.refl _)
    rw [this]
    rfl
  rw [this, Nat.mul_one]
/-- the number of full chains does not depend on the basis, nor on the room -/
theorem cnt_basis_le {n : Nat} {B B2 bs cs C C2 σ : List Nat} (hbl : ∀ b ∈ bs, b < 2 ^ n) (hC : ∀ x, x ∈ C ↔ x ∈ span bs) (hn : C.Nodup) (hC2 : ∀ x, x ∈ C2 ↔ x ∈ span cs) (hs : IsSeq n σ) (hp : (C.map (led σ)).Perm C2) :
    cnt n C bs bs.length [] ≤ cnt n C2 cs cs.length [] := by
  have hCl : ∀ c ∈ C, c < 2 ^ n := fun c hc => span_lt hbl ((hC c).mp hc)
  -- cs in the led basis, the led basis in cs
  have hb' : ∀ x, x ∈ C2 ↔ x ∈ span (bs.map (led σ)) := fun x => by
    constructor
    · intro hx
      obtain ⟨c, hc, rfl⟩ := List.mem_map.mp (hp.mem_iff.mpr hx)
      exact map_span_mem hs ((hC c).mp hc)
    · refine fun hx => (hC2 x).mpr (span_sub (fun y hy => ?_) hx)
      obtain ⟨b, hb, rfl⟩ := List.mem_map.mp hy
      exact (hC2 _).mp (hp.mem_iff.mp (List.mem_map.mpr ⟨b, (hC b).mpr (mem_span_of_mem hb), rfl⟩))
  obtain ⟨S, eS⟩ := xsel_all (ws := cs) (bs := bs.map (led σ)) fun w hw => (hb' w).mp ((hC2 w).mpr (mem_span_of_mem hw))
  obtain ⟨S2, eS2⟩ := xsel_all (ws := bs.map (led σ)) (bs := cs) fun w hw => (hC2 w).mp ((hb' w).mpr (mem_span_of_mem hw))
  have way' : ∀ {ws : List Nat}, (waysN n ws).Perm (waysN n bs) → ws.length = bs.length → (waysB n (ws.map (led σ))).Perm (waysB n (bs.map (led σ))) := fun {ws} h hl =>
    (ways_perm (by rw [List.length_map, List.length_map, hl])).mp ((ways_led hs ws).trans (h.trans (ways_led hs bs).symm))
  unfold cnt
  refine countP_inj (fun ws => S.map fun s => xsel s (ws.map (led σ))) (tuples_nodup hn _) (fun ws hw h => ?_) fun ws hw xs hx h1 h2 e => ?_
  · obtain ⟨a, b⟩ := mem_tuples.mp hw
    unfold fullB at h
    rw [List.nil_append] at h
    have h' := List.isPerm_iff.mp h
    have hlS : S.length = cs.length := by rw [eS, List.length_map]
    refine ⟨mem_tuples.mpr ⟨by rw [List.length_map, hlS], fun x hx => ?_⟩, ?_⟩
    · obtain ⟨s, _, rfl⟩ := List.mem_map.mp hx
      rw [hb']
      refine span_sub (fun y hy => ?_) (xsel_mem s _)
      obtain ⟨w, hw', rfl⟩ := List.mem_map.mp hy
      exact map_span_mem hs ((hC w).mp (b w hw'))
    · unfold fullB
      rw [List.nil_append]
      refine List.isPerm_iff.mpr ((ways_perm (by rw [List.length_map, hlS])).mpr ?_)
      rw [waysB_sel]
      conv => rhs; rw [eS]
      rw [waysB_sel]
      exact (way' h' a).map _
  · obtain ⟨a1, b1⟩ := mem_tuples.mp hw
    obtain ⟨a2, b2⟩ := mem_tuples.mp hx
    unfold fullB at h1 h2
    rw [List.nil_append] at h1 h2
    -- words told back by the second choice
    have back : ∀ {ws : List Nat}, ws.length = bs.length → (waysN n ws).Perm (waysN n bs) → (∀ w ∈ ws, w < 2 ^ n) → ws.map (led σ) = S2.map fun s => xsel s (S.map fun s => xsel s (ws.map (led σ))) := by
      intro ws hl h hlt
      have hw2 := way' h hl
      have rel : ∀ l ∈ waysB n (ws.map (led σ)), l = S2.map fun s => pf s (S.map fun s => pf s l) := fun l hm => by
        have hm2 := hw2.mem_iff.mp hm
        obtain ⟨p, _, rfl⟩ := List.mem_map.mp hm2
        conv => lhs; rw [eS2]
        rw [bitsAt_sel]
        apply List.map_congr_left
        intro s _
        conv => lhs; rw [eS]
        rw [bitsAt_sel]
      have hl2 : S2.length = ws.length := by rw [← List.length_map (f := fun s => xsel s cs), ← eS2, List.length_map, hl]
      apply List.ext_getElem
      · rw [List.length_map, List.length_map, hl2]
      · intro j j1 j2
        rw [List.getElem_map]
        apply Nat.eq_of_testBit_eq
        intro p
        by_cases hpn : p < n
        · have := rel _ (List.mem_map.mpr ⟨p, List.mem_range.mpr hpn, rfl⟩)
          have e2 : (bitsAt (ws.map (led σ)) p)[j]? = (S2.map fun s => pf s (S.map fun s => pf s (bitsAt (ws.map (led σ)) p)))[j]? := by rw [← this]
          have jw : j < ws.length := by simpa using j1
          have js : j < S2.length := by omega
          unfold bitsAt at e2
          simp only [List.getElem?_map, List.getElem?_eq_getElem jw, List.getElem?_eq_getElem js, Option.map_some, Option.some.injEq] at e2
          rw [e2, List.getElem_map, xsel_bit, bitsAt_sel]
          rfl
        · have jw : j < ws.length := by simpa using j1
          rw [off_lt (led_lt hs _) (by omega), List.getElem_map, xsel_bit, bitsAt_sel]
          have z : bitsAt (ws.map (led σ)) p = bitsAt (List.replicate ws.length 0) p := by
            unfold bitsAt
            rw [List.map_map]
            apply List.ext_getElem
            · simp
            · intro k k1 k2
              simp
              exact off_lt (led_lt hs _) (by omega)
          have pf0 : ∀ (s : List Bool) (k : Nat), pf s (List.replicate k false) = false := by
            intro s
            induction s with
            | nil =>
              intro k
              rfl
            | cons x s ih =>
              intro k
              cases k with
              | zero => rfl
              | succ k =>
                show ((x && false) ^^ pf s (List.replicate k false)) = false
                rw [ih]
                simp
          have z2 : bitsAt (List.replicate ws.length 0) p = List.replicate ws.length false := by
            unfold bitsAt
            rw [List.map_replicate, Nat.zero_testBit]
          rw [z, z2]
          have z3 : (S.map fun s => pf s (List.replicate ws.length false)) = List.replicate S.length false := List.eq_replicate_iff.mpr ⟨by simp, fun x hx => by
            obtain ⟨s, _, rfl⟩ := List.mem_map.mp hx
            exact pf0 s _⟩
          rw [z3, pf0]
    have e' : (S.map fun s => xsel s (ws.map (led σ))) = S.map fun s => xsel s (xs.map (led σ)) := e
    have w1 := back a1 (List.isPerm_iff.mp h1) fun w hw' => hCl w (b1 w hw')
    have w2 := back a2 (List.isPerm_iff.mp h2) fun w hw' => hCl w (b2 w hw')
    rw [e', ← w2] at w1
    apply List.ext_getElem
    · rw [a1, a2]
    · intro j j1 j2
      have : (ws.map (led σ))[j]? = (xs.map (led σ))[j]? := by rw [w1]
      rw [List.getElem?_map, List.getElem?_map, List.getElem?_eq_getElem j1, List.getElem?_eq_getElem j2] at this
      exact led_inj hs (hCl _ (b1 _ (List.getElem_mem j1))) (hCl _ (b2 _ (List.getElem_mem j2))) (Option.some.inj this)
end Ow
namespace Ow
/-! the search with a plain test, for the kernel -/
def okStepP (n : Nat) (bs us : List Nat) (w : Nat) : Bool := wt w == wt (bs.getD us.length 0) && (waysN n (us ++ [w])).isPerm (waysN n (bs.take (us.length + 1)))
theorem okStep_eq (n : Nat) (bs us : List Nat) (w : Nat) : okStep n bs us w = okStepP n bs us w := by
  unfold okStep okStepP
  congr 1
  rw [Bool.eq_iff_iff, beq_iff_eq, upN_congr, List.isPerm_iff]
def extP (n : Nat) (C bs : List Nat) : Nat → List Nat → Bool
  | 0, us => true
  | d + 1, us => (C.filter (okStepP n bs us)).any fun w => extP n C bs d (us ++ [w])
theorem ext_isSome {n : Nat} {C bs : List Nat} : ∀ (d : Nat) (us : List Nat), (ext n C bs d us).isSome = extP n C bs d us
  | 0, us => rfl
  | d + 1, us => by
    show ((C.filter (okStep n bs us)).findSome? fun w => ext n C bs d (us ++ [w])).isSome = (C.filter (okStepP n bs us)).any fun w => extP n C bs d (us ++ [w])
    have e : okStep n bs us = okStepP n bs us := funext fun w => okStep_eq n bs us w
    rw [e, List.isSome_findSome?]
    congr 1
    funext w
    exact ext_isSome d (us ++ [w])
def cAtP (n : Nat) (C bs : List Nat) (i : Nat) : Nat := ((C.filter (okStepP n bs (bs.take i))).filter fun w => extP n C bs (bs.length - i - 1) (bs.take i ++ [w])).length
theorem cAt_eq (n : Nat) (C bs : List Nat) (i : Nat) : cAt n C bs i = cAtP n C bs i := by
  unfold cAt cAtP
  have e : okStep n bs (bs.take i) = okStepP n bs (bs.take i) := funext fun w => okStep_eq n bs _ w
  rw [e]
  congr 2
  funext w
  exact ext_isSome _ _
def prodCP (n : Nat) (C bs : List Nat) : Nat → Nat
  | 0 => 1
  | i + 1 => prodCP n C bs i * cAtP n C bs i
theorem prodC_eq (n : Nat) (C bs : List Nat) : ∀ i, prodC n C bs i = prodCP n C bs i
  | 0 => rfl
  | i + 1 => by
    show prodC n C bs i * cAt n C bs i = prodCP n C bs i * cAtP n C bs i
    rw [prodC_eq n C bs i, cAt_eq]
/-! the classes of places -/
def cpF {α : Type} [BEq α] : List α → Nat
  | [] => 1
  | a :: l => (l.count a + 1) * cpF l
theorem cpF_perm {α : Type} [BEq α] [LawfulBEq α] {l m : List α} (h : l.Perm m) : cpF l = cpF m := by
  induction h with
  | nil => rfl
  | cons a h ih =>
    show (_ + 1) * _ = (_ + 1) * _
    rw [ih, h.count_eq]
  | swap a b l =>
    show ((a :: l).count b + 1) * ((l.count a + 1) * cpF l) = ((b :: l).count a + 1) * ((l.count b + 1) * cpF l)
    rw [← Nat.mul_assoc, ← Nat.mul_assoc]
    congr 1
    by_cases e : a = b
    · subst e
      rfl
    · have e' : ¬ b = a := fun q => e q.symm
      rw [List.count_cons_of_ne e, List.count_cons_of_ne e']
      exact Nat.mul_comm _ _
  | trans _ _ ih1 ih2 => exact ih1.trans ih2
theorem count_map_inj {α β : Type} [BEq α] [LawfulBEq α] [BEq β] [LawfulBEq β] {f : α → β} {a : α} : ∀ {l : List α}, (∀ b ∈ l, f b = f a → b = a) → (l.map f).count (f a) = l.count a
  | [], _ => rfl
  | b :: l, h => by
    rw [List.map_cons, List.count_cons, List.count_cons, count_map_inj fun c hc => h c (List.mem_cons_of_mem _ hc)]
    congr 1
    by_cases e : b = a
    · subst e
      simp
    · have : ¬ f b = f a := fun q => e (h b List.mem_cons_self q)
      simp [e, this]
theorem cpF_map {α β : Type} [BEq α] [LawfulBEq α] [BEq β] [LawfulBEq β] {f : α → β} : ∀ {l : List α}, (∀ a ∈ l, ∀ b ∈ l, f a = f b → a = b) → cpF (l.map f) = cpF l
  | [], _ => rfl
  | a :: l, h => by
    show ((l.map f).count (f a) + 1) * cpF (l.map f) = (l.count a + 1) * cpF l
    rw [count_map_inj fun b hb e => h b (List.mem_cons_of_mem _ hb) a List.mem_cons_self e, cpF_map fun b hb c hc => h b (List.mem_cons_of_mem _ hb) c (List.mem_cons_of_mem _ hc)]
def fact : Nat → Nat
  | 0 => 1
  | n + 1 => (n + 1) * fact n
/-- the product over the unlike ones -/
def prodF (L ds : List Nat) : Nat := (ds.map fun v => fact (L.count v)).prod
theorem prodF_nil : ∀ ds : List Nat, prodF [] ds = 1
  | [] => rfl
  | d :: ds => by
    show fact 0 * prodF [] ds = 1
    rw [prodF_nil ds]
    rfl
theorem prodF_notin {L ds : List Nat} {a : Nat} (h : a ∉ ds) : prodF (a :: L) ds = prodF L ds := by
  unfold prodF
  congr 1
  apply List.map_congr_left
  intro v hv
  rw [List.count_cons_of_ne fun (e : a = v) => h (e ▸ hv)]
theorem prodF_cons {L : List Nat} {a : Nat} : ∀ {ds : List Nat}, ds.Nodup → a ∈ ds → prodF (a :: L) ds = (L.count a + 1) * prodF L ds
  | d :: ds, hn, ha => by
    show fact ((a :: L).count d) * prodF (a :: L) ds = (L.count a + 1) * (fact (L.count d) * prodF L ds)
    by_cases e : a = d
    · subst e
      rw [prodF_notin (List.nodup_cons.mp hn).1, List.count_cons_self]
      show (L.count a + 1) * fact (L.count a) * _ = _
      rw [Nat.mul_assoc]
    · rw [List.count_cons_of_ne e, prodF_cons (List.nodup_cons.mp hn).2 ((List.mem_cons.mp ha).resolve_left e)]
      rw [← Nat.mul_assoc, Nat.mul_comm (fact _), Nat.mul_assoc]
theorem prodF_eq : ∀ {L ds : List Nat}, ds.Nodup → (∀ v ∈ L, v ∈ ds) → prodF L ds = cpF L
  | [], ds, _, _ => prodF_nil ds
  | a :: L, ds, hn, hs => by
    rw [prodF_cons hn (hs a List.mem_cons_self), prodF_eq hn fun v hv => hs v (List.mem_cons_of_mem _ hv)]
    rfl
/-! rooms that stand for their kind -/
def canonB (m k : Nat) : List Nat :=
  if k = m then (List.range m).reverse.map fun i => 3 * 4 ^ i
  else if m = 4 then [150, 85, 51, 15] else [768, 150, 85, 51, 15]
def dueOf (m k : Nat) : Nat := 2 ^ k * fact k * if k = m then 1 else 1344
instance (B : List Nat) : Decidable (Plain B) := inferInstanceAs (Decidable (_ ∧ _))
instance (B : List Nat) : Decidable (Still B) := inferInstanceAs (Decidable (∀ b ∈ B, ∀ c ∈ B, ev b c))
def ownD (n : Nat) (B : List Nat) : Bool := decide (Plain B) && decide (∀ b ∈ B, b < 2 ^ n) && decide (2 * B.length = n) && decide (Still B)
theorem ownD_ok {n : Nat} {B : List Nat} (h : ownD n B = true) : Own n B := by
  unfold ownD at h
  simp only [Bool.and_eq_true, decide_eq_true_eq] at h
  exact ⟨h.1.1.1, h.1.1.2, h.1.2, h.2⟩
def canonOk (m k : Nat) : Bool :=
  ownD (2 * m) (canonB m k) && decide (np (canonB m k) = k) && decide (prodCP (2 * m) (span (canonB m k)) (canonB m k) m * cpF (waysN (2 * m) (canonB m k)) = dueOf m k)
theorem canon11 : canonOk 1 1 = true := by decide +kernel
theorem canon22 : canonOk 2 2 = true := by decide +kernel
theorem canon33 : canonOk 3 3 = true := by decide +kernel
theorem canon44 : canonOk 4 4 = true := by decide +kernel
theorem canon55 : canonOk 5 5 = true := by decide +kernel
theorem canon40 : canonOk 4 0 = true := by decide +kernel
theorem canon51 : canonOk 5 1 = true := by decide +kernel
theorem canon_ok {m k : Nat} (h1 : 1 ≤ m) (h5 : m ≤ 5) (hk : k = m ∨ k + 4 = m) : canonOk m k = true := by
  rcases hk with rfl | hk
  · match k, h1, h5 with
    | 1, _, _ => exact canon11
    | 2, _, _ => exact canon22
    | 3, _, _ => exact canon33
    | 4, _, _ => exact canon44
    | 5, _, _ => exact canon55
  · match m, h1, h5, hk with
    | 1, _, _, hk => omega
    | 2, _, _, hk => omega
    | 3, _, _, hk => omega
    | 4, _, _, hk =>
      obtain rfl : k = 0 := by omega
      exact canon40
    | 5, _, _, hk =>
      obtain rfl : k = 1 := by omega
      exact canon51
/-- classes of places are those of the paired basis -/
theorem cpF_ways {n : Nat} {B bs : List Nat} (hB : Plain B) (hb : IsBasis B bs) : cpF (waysN n bs) = cpF (waysB n (pairFirst B)) := by
  obtain ⟨S, eS⟩ := xsel_all (ws := bs) (bs := pairFirst B) fun w hw => (span_perm (pairFirst_perm B)).mpr (hb.mem w hw)
  obtain ⟨S2, eS2⟩ := xsel_all (ws := pairFirst B) (bs := bs) fun w hw => (hb.span hB).mp (mem_span_of_mem ((pairFirst_perm B).mem_iff.mp hw))
  have e : waysN n bs = (waysB n (pairFirst B)).map fun l => toN (S.map fun s => pf s l) := by
    rw [waysN_eq]
    conv => lhs; rw [eS]
    rw [waysB_sel, List.map_map]
    rfl
  rw [e]
  refine cpF_map fun a ha b hb' e => ?_
  obtain ⟨p, _, rfl⟩ := List.mem_map.mp ha
  obtain ⟨q, _, rfl⟩ := List.mem_map.mp hb'
  have back : ∀ p, (S.map fun s => pf s (bitsAt (pairFirst B) p)) = bitsAt bs p := fun p => by
    conv => rhs; rw [eS]
    rw [bitsAt_sel]
  rw [back p, back q] at e
  have l1 : ∀ p, (bitsAt bs p).length = bs.length := fun p => by unfold bitsAt; rw [List.length_map]
  have e4 : bitsAt bs p = bitsAt bs q := by
    have a := ofN_toN (bitsAt bs p)
    have b := ofN_toN (bitsAt bs q)
    rw [l1, e] at a
    rw [l1] at b
    exact a.symm.trans b
  have fwd : ∀ p, bitsAt (pairFirst B) p = S2.map fun s => pf s (bitsAt bs p) := fun p => by
    conv => lhs; rw [eS2]
    rw [bitsAt_sel]
  rw [fwd p, fwd q, e4]
/-- how many own exchanges an own room has -/
theorem exchanges_due {n m : Nat} {B bs : List Nat} (h : Own n B) (hm : n = 2 * m) (h1 : 1 ≤ m) (h5 : m ≤ 5) (hb : IsBasis B bs) : prodC n (span bs) bs bs.length * cpF (waysN n bs) = dueOf m (np B) := by
  have hn : n ≤ 24 := by omega
  obtain ⟨K, _⟩ := h.kinds hm h1 h5
  have ok := canon_ok h1 h5 K.np
  unfold canonOk at ok
  simp only [Bool.and_eq_true, decide_eq_true_eq] at ok
  obtain ⟨⟨o1, o2⟩, o3⟩ := ok
  have hC : Own n (canonB m (np B)) := by
    rw [hm]
    exact ownD_ok o1
  rw [← hm] at o3
  have hlen : (canonB m (np B)).length = m := by
    have := hC.half
    omega
  have hcb := IsBasis.self hC.plain
  have hbl := hb.lt h.lt
  rw [← prodC_eq] at o3
  have c1 := cnt_all (bs := bs) (C := span bs) hn hb.nodup (fun x => Iff.rfl) hbl
  have c2 := cnt_all (bs := canonB m (np B)) (C := span (canonB m (np B))) hn hC.plain.span_nodup (fun x => Iff.rfl) hC.lt
  obtain ⟨σ, s1, s2⟩ := alike_seq h hC hm h1 h5 o2.symm
  obtain ⟨τ, t1, t2⟩ := alike_seq hC h hm h1 h5 o2
  have le1 : cnt n (span bs) bs bs.length [] ≤ cnt n (span (canonB m (np B))) (canonB m (np B)) (canonB m (np B)).length [] :=
    cnt_basis_le (B := []) (B2 := []) hbl (fun x => Iff.rfl) hb.nodup (fun x => Iff.rfl) s1 (((hb.perm h.plain).map _).trans s2)
  have le2 : cnt n (span (canonB m (np B))) (canonB m (np B)) (canonB m (np B)).length [] ≤ cnt n (span bs) bs bs.length [] :=
    cnt_basis_le (B := []) (B2 := []) hC.lt (fun x => Iff.rfl) hC.plain.span_nodup (fun x => Iff.rfl) t1 (t2.trans (hb.perm h.plain).symm)
  have ec := Nat.le_antisymm le1 le2
  rw [c1, c2, hlen] at ec
  rw [ec, cpF_ways h.plain hb, cpF_perm (ways_alike h hC hm h1 h5 o2.symm), ← cpF_ways hC.plain hcb]
  exact o3
end Ow
namespace Ow
/-! made rooms -/
def madeWords (wide many : Nat) : List Nat := (if wide = 8 then [15, 60, 240, 170] else []) ++ (List.range many).map fun i => 3 <<< (wide + 2 * i)
def madeDue (wide many : Nat) : Nat := (List.range many).foldl (fun d i => d * 2 * (i + 1)) (if wide = 8 then 1344 else 1)
def madeOk (m wide : Nat) : Bool :=
  let many := (2 * m - wide) / 2
  ownD (2 * m) (canonB m many) && decide (np (canonB m many) = many) && decide (dueOf m many = madeDue wide many)
   && ((madeWords wide many).all fun w => (span (canonB m many)).contains w) && ((canonB m many).all fun w => (span (madeWords wide many)).contains w)
theorem made_ok {m wide : Nat} (h1 : 1 ≤ m) (h5 : m ≤ 5) (hw : wide = 0 ∨ (wide = 8 ∧ 4 ≤ m)) : madeOk m wide = true := by
  rcases hw with rfl | ⟨rfl, h4⟩
  · match m, h1, h5 with
    | 1, _, _ => decide +kernel
    | 2, _, _ => decide +kernel
    | 3, _, _ => decide +kernel
    | 4, _, _ => decide +kernel
    | 5, _, _ => decide +kernel
  · match m, h4, h5 with
    | 4, _, _ => decide +kernel
    | 5, _, _ => decide +kernel
theorem made_own {n m wide : Nat} {σ : List Nat} (hm : n = 2 * m) (h1 : 1 ≤ m) (h5 : m ≤ 5) (hw : wide = 0 ∨ (wide = 8 ∧ 4 ≤ m)) (hs : IsSeq n σ) :
    Own n (plainBasis ((madeWords wide ((n - wide) / 2)).map (led σ))) ∧ np (plainBasis ((madeWords wide ((n - wide) / 2)).map (led σ))) = (n - wide) / 2 ∧ dueOf m ((n - wide) / 2) = madeDue wide ((n - wide) / 2) := by
  have hn : n ≤ 24 := by omega
  have ok := made_ok h1 h5 hw
  unfold madeOk at ok
  simp only [Bool.and_eq_true, decide_eq_true_eq] at ok
  obtain ⟨⟨⟨⟨o1, o2⟩, o3⟩, o4⟩, o5⟩ := ok
  rw [← hm] at o1 o2 o3 o4 o5
  generalize hmany : (n - wide) / 2 = many at *
  have hC : Own n (canonB m many) := ownD_ok o1
  have w1 : ∀ w ∈ madeWords wide many, w ∈ span (canonB m many) := fun w hw => by
    have := List.all_eq_true.mp o4 w hw
    simpa using this
  have w2 : ∀ b ∈ canonB m many, b ∈ span (madeWords wide many) := fun w hw => by
    have := List.all_eq_true.mp o5 w hw
    simpa using this
  have ltW : ∀ x ∈ (madeWords wide many).map (led σ), x < 2 ^ n := fun x hx => by
    obtain ⟨w, _, rfl⟩ := List.mem_map.mp hx
    exact led_lt hs w
  have stW : Still ((madeWords wide many).map (led σ)) := fun x hx y hy => by
    obtain ⟨a, ha, rfl⟩ := List.mem_map.mp hx
    obtain ⟨b, hb, rfl⟩ := List.mem_map.mp hy
    unfold ev
    rw [← led_and hs, led_wt hs hn (Nat.and_lt_two_pow _ (span_lt hC.lt (w1 b hb)))]
    exact hC.still.span (w1 a ha) (w1 b hb)
  have hP := plainBasis_plain ((madeWords wide many).map (led σ))
  have hlt := plainBasis_lt ltW
  have hst : Still (plainBasis ((madeWords wide many).map (led σ))) := stW.of_span fun b hb => mem_plainBasis_span.mp (mem_span_of_mem hb)
  have hle := still_half hP hlt hn hst
  have sub : ∀ b ∈ canonB m many, led σ b ∈ span (plainBasis ((madeWords wide many).map (led σ))) := fun b hb =>
    led_span hs (fun w hw => mem_plainBasis_span.mpr (mem_span_of_mem (List.mem_map.mpr ⟨w, hw, rfl⟩))) (w2 b hb)
  have hge : (canonB m many).length ≤ (plainBasis ((madeWords wide many).map (led σ))).length := by
    have hnd : ((span (canonB m many)).map (led σ)).Nodup := by
      unfold List.Nodup
      rw [List.pairwise_map]
      refine List.Pairwise.imp_of_mem ?_ hC.plain.span_nodup
      intro a b ha hb' ne e
      exact ne (led_inj hs (span_lt hC.lt ha) (span_lt hC.lt hb') e)
    have := hnd.length_le_of_subset (l₂ := span (plainBasis ((madeWords wide many).map (led σ)))) fun x hx => by
      obtain ⟨w, hw, rfl⟩ := List.mem_map.mp hx
      exact led_span hs sub hw
    rw [List.length_map, length_span, length_span] at this
    exact (Nat.pow_le_pow_iff_right (by decide)).mp this
  have hhalf := hC.half
  have hO : Own n (plainBasis ((madeWords wide many).map (led σ))) := ⟨hP, hlt, by omega, hst⟩
  refine ⟨hO, ?_, o3⟩
  have hp := led_perm hs hC.plain hC.lt (C := plainBasis ((madeWords wide many).map (led σ))) (by have := hO.half; omega) sub
  rw [← np_led hC hO hn hs hp]
  exact o2
end Ow
set_option Elab.async false
set_option linter.all false
set_option maxRecDepth 100000
set_option maxHeartbeats 4000000
/-! the text by places -/
namespace Oc
open PySem PySem.Spec PyProof.Rows L2
def topS (i : Nat) : Stmt := PySem.Challenge.pw_owncontraries_k79_whole_own_rooms_by_kin.main.body.getD i (.Pass ⟨0, 0, 0, 0⟩)
abbrev s_is_integer : Stmt := topS 13
abbrev s_is_count : Stmt := topS 14
abbrev s_is_list : Stmt := topS 15
abbrev s_is_places : Stmt := topS 16
abbrev s_want_places : Stmt := topS 17
abbrev s_want_at_most : Stmt := topS 18
abbrev s_left_of : Stmt := topS 22
abbrev s_with_word : Stmt := topS 23
abbrev s_plain_basis : Stmt := topS 24
abbrev s_all_words : Stmt := topS 25
abbrev s_Told_init : Stmt := inClass (topS 26) 0
abbrev s_told_room : Stmt := topS 27
abbrev s_Room_init : Stmt := inClass (topS 28) 0
abbrev s_room_by : Stmt := topS 29
abbrev s_want_room : Stmt := topS 30
abbrev s_want_word : Stmt := topS 31
abbrev s_weight_of : Stmt := topS 34
abbrev s_is_odd : Stmt := topS 35
abbrev s_spots_of : Stmt := topS 36
abbrev s_all_on : Stmt := topS 37
abbrev s_contrary_basis : Stmt := topS 39
abbrev s_odd_two : Stmt := topS 40
abbrev s_are_still : Stmt := topS 41
abbrev s_missing_word : Stmt := topS 42
abbrev s_is_own_room : Stmt := topS 43
abbrev s_want_still : Stmt := topS 44
abbrev s_is_own : Stmt := topS 45
abbrev s_want_alike : Stmt := topS 47
abbrev s_below : Stmt := topS 48
abbrev s_shortened_basis : Stmt := topS 49
abbrev s_masks_of : Stmt := topS 51
abbrev s_parts_of : Stmt := topS 52
abbrev s_with_way : Stmt := topS 55
abbrev s_small_basis : Stmt := topS 56
abbrev s_light_basis : Stmt := topS 57
abbrev s_Search_init : Stmt := inClass (topS 58) 0
abbrev s_Search_steps : Stmt := inClass (topS 58) 1
abbrev s_Search_ended : Stmt := inClass (topS 58) 2
abbrev s_ways_by : Stmt := topS 59
abbrev s_marks_of : Stmt := topS 60
abbrev s_leading : Stmt := topS 61
abbrev s_factorial : Stmt := topS 62
abbrev s_exchanges_of : Stmt := topS 63
abbrev s_alike : Stmt := topS 64
abbrev s_own_exchanges : Stmt := topS 65
abbrev s_with_all : Stmt := topS 67
abbrev s_filled_basis : Stmt := topS 68
abbrev s_filled : Stmt := topS 69
abbrev s_pairs_of : Stmt := topS 72
abbrev s_without_pairs : Stmt := topS 73
abbrev s_kind_name : Stmt := topS 74
abbrev s_lots_of : Stmt := topS 75
abbrev s_pairs : Stmt := topS 76
abbrev s_fours_kinds : Stmt := topS 77
abbrev s_l_pot : Stmt := topS 79
abbrev s_l_draw : Stmt := topS 80
abbrev s_l_pick : Stmt := topS 81
abbrev s_l_weight : Stmt := topS 82
abbrev s_l_word : Stmt := topS 83
abbrev s_l_led : Stmt := topS 84
abbrev s_l_sequence : Stmt := topS 85
abbrev s_l_drawn : Stmt := topS 86
abbrev s_l_names : Stmt := topS 87
abbrev s_l_made : Stmt := topS 88
abbrev s_l_right : Stmt := topS 89
abbrev s_law : Stmt := topS 90
end Oc
/-! facts of the text, the call of a def -/
namespace Oc
open PySem PySem.Spec PyProof.Rows L2
abbrev CA (K : PySem.W.Frag) (x : Str) : Addr := He.ga K x
def halves : List Int := [0, 1, 1, 2, 1, 2, 2, 3, 1, 2, 2, 3, 2, 3, 3, 4]
abbrev DefAt (K : PySem.W.Frag) (mg : Str → Option Value) (x : Str) (st : Stmt) : Prop := ∃ fd, FunD K x x (defArgs st) (defBody st) (defScope st) [] [] (He.ga K x) fd ∧ mg x = some (.ref (He.ga K x))
abbrev MethAt (K : PySem.W.Frag) (C m qual : Str) (st : Stmt) : Prop := ∃ fd, FunD K m qual (defArgs st) (defBody st) (defScope st) [] [] (He.ma K (He.ga K C) m) fd
/-- what isinstance asks of a class of one's own -/
structure InsTy (K : PySem.W.Frag) (C : Addr) : Prop where
  ha : PySem.W.findIn K (.ref C) "__class__" = some (some (.builtin "object.__class__"))
  hn : PySem.W.specialIn K (.builtin "object.__class__") "__get__" = some (some (.builtin "getset_descriptor.__get__"))
  htk : PySem.W.takesIn K (.builtin "object.__class__") = some true
  hm : PySem.W.mroIn K C (.type "object") = some true
/-- what the walk asks of the text as the top has made it -/
structure Tx (K : PySem.W.Frag) (mg : Str → Option Value) : Prop where
  f_is_integer : DefAt K mg "is_integer" s_is_integer
  f_is_count : DefAt K mg "is_count" s_is_count
  f_is_list : DefAt K mg "is_list" s_is_list
  f_is_places : DefAt K mg "is_places" s_is_places
  f_want_places : DefAt K mg "want_places" s_want_places
  f_want_at_most : DefAt K mg "want_at_most" s_want_at_most
  f_left_of : DefAt K mg "left_of" s_left_of
  f_with_word : DefAt K mg "with_word" s_with_word
  f_plain_basis : DefAt K mg "plain_basis" s_plain_basis
  f_all_words : DefAt K mg "all_words" s_all_words
  f_Told_init : MethAt K "Told" "__init__" "Told.__init__" s_Told_init
  f_told_room : DefAt K mg "told_room" s_told_room
  f_Room_init : MethAt K "Room" "__init__" "Room.__init__" s_Room_init
  f_room_by : DefAt K mg "room_by" s_room_by
  f_want_room : DefAt K mg "want_room" s_want_room
  f_want_word : DefAt K mg "want_word" s_want_word
  f_weight_of : DefAt K mg "weight_of" s_weight_of
  f_is_odd : DefAt K mg "is_odd" s_is_odd
  f_spots_of : DefAt K mg "spots_of" s_spots_of
  f_all_on : DefAt K mg "all_on" s_all_on
  f_contrary_basis : DefAt K mg "contrary_basis" s_contrary_basis
  f_odd_two : DefAt K mg "odd_two" s_odd_two
  f_are_still : DefAt K mg "are_still" s_are_still
  f_missing_word : DefAt K mg "missing_word" s_missing_word
  f_is_own_room : DefAt K mg "is_own_room" s_is_own_room
  f_want_still : DefAt K mg "want_still" s_want_still
  f_is_own : DefAt K mg "is_own" s_is_own
  f_want_alike : DefAt K mg "want_alike" s_want_alike
  f_below : DefAt K mg "below" s_below
  f_shortened_basis : DefAt K mg "shortened_basis" s_shortened_basis
  f_masks_of : DefAt K mg "masks_of" s_masks_of
  f_parts_of : DefAt K mg "parts_of" s_parts_of
  f_with_way : DefAt K mg "with_way" s_with_way
  f_small_basis : DefAt K mg "small_basis" s_small_basis
  f_light_basis : DefAt K mg "light_basis" s_light_basis
  f_Search_init : MethAt K "Search" "__init__" "Search.__init__" s_Search_init
  f_Search_steps : MethAt K "Search" "steps" "Search.steps" s_Search_steps
  f_Search_ended : MethAt K "Search" "ended" "Search.ended" s_Search_ended
  f_ways_by : DefAt K mg "ways_by" s_ways_by
  f_marks_of : DefAt K mg "marks_of" s_marks_of
  f_leading : DefAt K mg "leading" s_leading
  f_factorial : DefAt K mg "factorial" s_factorial
  f_exchanges_of : DefAt K mg "exchanges_of" s_exchanges_of
  f_alike : DefAt K mg "alike" s_alike
  f_own_exchanges : DefAt K mg "own_exchanges" s_own_exchanges
  f_with_all : DefAt K mg "with_all" s_with_all
  f_filled_basis : DefAt K mg "filled_basis" s_filled_basis
  f_filled : DefAt K mg "filled" s_filled
  f_pairs_of : DefAt K mg "pairs_of" s_pairs_of
  f_without_pairs : DefAt K mg "without_pairs" s_without_pairs
  f_kind_name : DefAt K mg "kind_name" s_kind_name
  f_lots_of : DefAt K mg "lots_of" s_lots_of
  f_pairs : DefAt K mg "pairs" s_pairs
  f_fours_kinds : DefAt K mg "fours_kinds" s_fours_kinds
  f_l_pot : DefAt K mg "_law_pot" s_l_pot
  f_l_draw : DefAt K mg "_law_draw" s_l_draw
  f_l_pick : DefAt K mg "_law_pick" s_l_pick
  f_l_weight : DefAt K mg "_law_weight" s_l_weight
  f_l_word : DefAt K mg "_law_word" s_l_word
  f_l_led : DefAt K mg "_law_led" s_l_led
  f_l_sequence : DefAt K mg "_law_sequence" s_l_sequence
  f_l_drawn : DefAt K mg "_law_drawn" s_l_drawn
  f_l_names : DefAt K mg "_law_names" s_l_names
  f_l_made : DefAt K mg "_law_made" s_l_made
  f_l_right : DefAt K mg "_law_right" s_l_right
  f_law : DefAt K mg "law" s_law
  g_Told : mg "Told" = some (.ref (CA K "Told"))
  cl_Told : Cls K (CA K "Told")
  mk_Told : Mk K (CA K "Told") (He.ma K (CA K "Told") "__init__")
  no_told_places : NoAttr K (CA K "Told") "told_places"
  no_told_basis : NoAttr K (CA K "Told") "told_basis"
  g_Room : mg "Room" = some (.ref (CA K "Room"))
  cl_Room : Cls K (CA K "Room")
  mk_Room : Mk K (CA K "Room") (He.ma K (CA K "Room") "__init__")
  no_own_places : NoAttr K (CA K "Room") "own_places"
  no_own_basis : NoAttr K (CA K "Room") "own_basis"
  g_Search : mg "Search" = some (.ref (CA K "Search"))
  cl_Search : Cls K (CA K "Search")
  mk_Search : Mk K (CA K "Search") (He.ma K (CA K "Search") "__init__")
  no_own_goals : NoAttr K (CA K "Search") "own_goals"
  no_own_some : NoAttr K (CA K "Search") "own_some"
  m_Search_steps : Meth K (CA K "Search") "steps" (He.ma K (CA K "Search") "steps")
  m_Search_ended : Meth K (CA K "Search") "ended" (He.ma K (CA K "Search") "ended")
  c_MOST_PLACES_basics : ∃ t, mg "MOST_PLACES_basics" = some (.int 24 t)
  c_MOST_WORDS : ∃ t, mg "MOST_WORDS" = some (.int 48 t)
  c_MOST_PLACES_alike : ∃ t, mg "MOST_PLACES_alike" = some (.int 12 t)
  c_FOUR : ∃ t, mg "FOUR" = some (.int 4 t)
  g_HALVES : mg "HALVES" = some (.ref (He.ga K "HALVES"))
  t_HALVES : ∀ H : Hp, SqT K H (He.ga K "HALVES") (halves.map V.int)
  b_abs : mg "abs" = none
  b_all : mg "all" = none
  b_bool : mg "bool" = none
  b_dict : mg "dict" = none
  b_divmod : mg "divmod" = none
  b_enumerate : mg "enumerate" = none
  b_int : mg "int" = none
  b_isinstance : mg "isinstance" = none
  b_len : mg "len" = none
  b_list : mg "list" = none
  b_max : mg "max" = none
  b_min : mg "min" = none
  b_range : mg "range" = none
  b_set : mg "set" = none
  b_sorted : mg "sorted" = none
  b_sum : mg "sum" = none
  b_tuple : mg "tuple" = none
  b_zip : mg "zip" = none
  ti_Told : InsTy K (CA K "Told")
  ti_Room : InsTy K (CA K "Room")
  is_int_Told : PySem.W.kitOne K (.type "int") (.ref (CA K "Told")) = some false
section
variable {P : Program} {w : World} {K : PySem.W.Frag} {mg : Str → Option Value} {base : Heap}
/-- a def of the module that may be called: its promise, its level -/
structure Cal (P : Program) (w : World) (K : PySem.W.Frag) (mg : Str → Option Value) (base : Heap) (k : Nat) (x : Str) (sp : Sp) : Prop where
  ex : ∃ (f : Addr) (fd : FuncData) (ps : List Str), FnOk P w K mg base CX0 k f fd ps sp ∧ mg x = some (.ref f) ∧ PySem.W.keepIn K (.ref f) = true ∧ Binds K fd ps []
/-- a method -/
structure Met (P : Program) (w : World) (K : PySem.W.Frag) (mg : Str → Option Value) (base : Heap) (k : Nat) (C : Addr) (m : Str) (sp : Sp) : Prop where
  ex : ∃ (f : Addr) (fd : FuncData) (ps : List Str), Cls K C ∧ Meth K C m f ∧ FnOk P w K mg base CX0 k f fd ps sp ∧ Binds K fd ps []
/-- a class that may be made: the promise of its __init__ -/
structure Mak (P : Program) (w : World) (K : PySem.W.Frag) (mg : Str → Option Value) (base : Heap) (k : Nat) (x : Str) (C : Addr) (sp : Sp) : Prop where
  ex : ∃ (f : Addr) (fd : FuncData) (ps : List Str), Mk K C f ∧ FnOk P w K mg base CX0 k f fd ps sp ∧ mg x = some (.ref C) ∧ Binds K fd ps []
abbrev BindsBy (x qual : Str) (st : Stmt) (ps : List Str) : Prop := ∀ (kV doc pm : Value) (an : Option Addr) (cdv ct : Value) (us : List Value), us.length = ps.length → bindArgs (PySem.W.fnOf x qual (defArgs st) (defBody st) (defScope st) .none kV doc pm an cdv ct) ⟨us, []⟩ = pure (ps.zip us)
abbrev BodyOk (P : Program) (w : World) (K : PySem.W.Frag) (mg : Str → Option Value) (base : Heap) (qual : Str) (st : Stmt) (N : List Str) (f : Addr) (k : Nat) (sp : Sp) : Prop :=
  ∀ (cdv : Value) (A : Around) (outer : List Env) (s : Shared) (H : Hp) (vs : List V) (Q : VK) (E : XK), Room k (A.deeper (envOfC qual (defScope st) s.heap.objs.size f cdv)) → sp vs H Q E →
      ∃ t, PSs (cxOf CX0 P w K mg base N qual (defScope st) f cdv A outer s H E).nox (defBody st) t ∧ t { nx := fun _ H' => Q .non H', rt := Q } (start N vs) H
theorem fnD {x qual : Str} {st : Stmt} {f : Addr} {fd : FuncData} {N ps : List Str} {k : Nat} {sp : Sp} (F : FunD K x qual (defArgs st) (defBody st) (defScope st) [] [] f fd) (S : FnScope N ps (defScope st)) (len : ∀ vs H Q E, sp vs H Q E → vs.length = ps.length)
    (hb : BodyOk P w K mg base qual st N f k sp) : FnOk P w K mg base CX0 (k + 1) f fd ps sp :=
  F.ok S len fun cdv A outer s H vs Q E hr hsp => by
    obtain ⟨t, h, q⟩ := hb cdv A outer s H vs Q E hr hsp
    exact ⟨t, h.nox, q⟩
theorem calD {x : Str} {st : Stmt} {N ps : List Str} {k : Nat} {sp : Sp} (D : DefAt K mg x st) (hb : BindsBy x x st ps) (S : FnScope N ps (defScope st)) (len : ∀ vs H Q E, sp vs H Q E → vs.length = ps.length)
    (body : BodyOk P w K mg base x st N (He.ga K x) k sp) : Cal P w K mg base (k + 1) x sp := by
  obtain ⟨fd, F, hm⟩ := D
  exact ⟨_, fd, ps, fnD F S len body, hm, F.kp, FunD.bindsN F hb⟩
theorem metD {C : Addr} {m qual : Str} {Cn : Str} {st : Stmt} {N ps : List Str} {k : Nat} {sp : Sp} (D : MethAt K Cn m qual st) (c : Cls K (He.ga K Cn)) (me : Meth K (He.ga K Cn) m (He.ma K (He.ga K Cn) m)) (hb : BindsBy m qual st ps) (S : FnScope N ps (defScope st)) (len : ∀ vs H Q E, sp vs H Q E → vs.length = ps.length)
    (body : BodyOk P w K mg base qual st N (He.ma K (He.ga K Cn) m) k sp) : Met P w K mg base (k + 1) (He.ga K Cn) m sp := by
  obtain ⟨fd, F⟩ := D
  exact ⟨_, fd, ps, c, me, fnD F S len body, FunD.bindsN F hb⟩
theorem makD {qual : Str} {Cn : Str} {st : Stmt} {N ps : List Str} {k : Nat} {sp : Sp} (D : MethAt K Cn "__init__" qual st) (M : Mk K (He.ga K Cn) (He.ma K (He.ga K Cn) "__init__")) (hm : mg Cn = some (.ref (He.ga K Cn))) (hb : BindsBy "__init__" qual st ps) (S : FnScope N ps (defScope st)) (len : ∀ vs H Q E, sp vs H Q E → vs.length = ps.length)
    (body : BodyOk P w K mg base qual st N (He.ma K (He.ga K Cn) "__init__") k sp) : Mak P w K mg base (k + 1) Cn (He.ga K Cn) sp := by
  obtain ⟨fd, F⟩ := D
  exact ⟨_, fd, ps, M, fnD F S len body, hm, FunD.bindsN F hb⟩
end
section
variable {X : Cx} {k j : Nat} {C : Addr} {x m : Str} {sp : Sp} {p pos apos : Pos} {e o : Expr} {es : List Expr} {ta : TE} {t : TA}
theorem pe_c (c : Cal X.prog X.w X.K X.mg X.base k x sp) (hr : Room j X.A) (hk : k ≤ j) (hg : Gl X x) (ha : PA X (e :: es) t)
    (hdb : (x == ("__debug__" : Str)) = false := by decide) (he : starEach (e :: es) X.env = (false, eval e X.env) :: starEach es X.env := by rfl) (hpl : (backTo pos (starEach es X.env)).any (·.1) = false := by rfl) :
    PE X (.Call (.Name x p) (e :: es) [] pos) (tCall sp [] E0 t) := by
  obtain ⟨f, fd, ps, F, hm, kp, b⟩ := c.ex
  exact pe_call F (hr.mono hk) hg hm kp b .nil pass0 ha hdb he hpl
theorem pe_mk (c : Mak X.prog X.w X.K X.mg X.base k x C sp) (hr : Room j X.A) (hk : k + 1 ≤ j) (hg : Gl X x) (ha : PA X (e :: es) t)
    (hdb : (x == ("__debug__" : Str)) = false := by decide) (he : starEach (e :: es) X.env = (false, eval e X.env) :: starEach es X.env := by rfl) (hpl : (backTo pos (starEach es X.env)).any (·.1) = false := by rfl) :
    PE X (.Call (.Name x p) (e :: es) [] pos) (tMake C sp [] E0 t) := by
  obtain ⟨f, fd, ps, M, F, hm, b⟩ := c.ex
  exact pe_make M F (hr.mono hk) hg hm b .nil pass0 ha hdb he hpl
theorem pe_mt {pl : Sem Bool} (c : Met X.prog X.w X.K X.mg X.base k C m sp) (hr : Room j X.A) (hk : k ≤ j) (he : PE X o ta) (ha : PA X (e :: es) t)
    (hst : starEach (e :: es) X.env = (false, eval e X.env) :: starEach es X.env := by rfl) (hpl : (backTo pos (starEach es X.env)).any (·.1) = false := by rfl)
    (ht : eval (.Call (.Attribute o m apos) (e :: es) [] pos) X.env = (do
      let ov ← eval o X.env
      standAt apos.atName
      let (f, first) ← holding [ov] (getMethod ov m pl)
      callWith pos f first (backTo pos (starEach (e :: es) X.env)) (backToKw pos (keywordEach [] X.env))) := by rfl) :
    PE X (.Call (.Attribute o m apos) (e :: es) [] pos) (tMeth C m sp [] E0 ta t) := by
  obtain ⟨f, fd, ps, hc, hm, F, b⟩ := c.ex
  exact pe_meth (pl := pl) he hc hm F (hr.mono hk) b .nil pass0 ha hst hpl ht
/-- a constant of the module -/
theorem pe_ci {i : Int} (hg : Gl X x) (h : ∃ t, X.mg x = some (.int i t)) (hd : (x == ("__debug__" : Str)) = false := by decide) : PE X (.Name x pos) (tC (.int i)) := by
  obtain ⟨t, hm⟩ := h
  exact pe_glob hg hm ⟨t, rfl⟩ hd
end
/-! words as ints -/
abbrev vN (n : Nat) : V := .int (n : Int)
abbrev vL (l : List Nat) : List V := l.map vN
theorem bXor (a b : Nat) : Builtin.bitXor (a : Int) (b : Int) = ((a ^^^ b : Nat) : Int) := by
  rw [Bits.bitXor_pp (Int.natCast_nonneg a) (Int.natCast_nonneg b), Int.toNat_natCast, Int.toNat_natCast]
theorem bOr (a b : Nat) : Builtin.bitOr (a : Int) (b : Int) = ((a ||| b : Nat) : Int) := by
  rw [Bits.bitOr_pp (Int.natCast_nonneg a) (Int.natCast_nonneg b), Int.toNat_natCast, Int.toNat_natCast]
theorem bAnd (a b : Nat) : Builtin.bitAnd (a : Int) (b : Int) = ((a &&& b : Nat) : Int) := by
  rfl
theorem bAndNot (a b : Nat) : Builtin.bitAnd (a : Int) (Builtin.bitNot (b : Int)) = ((Ow.andNot a b : Nat) : Int) := by
  have e1 := PyProof.Rows.bitAnd_not (a : Int) (b : Int)
  have e2 := bXor a (a &&& b)
  rw [bitXor_and, bAnd] at e2
  have e3 : a &&& (a &&& b) = a &&& b := by rw [← Nat.and_assoc, Nat.and_self]
  rw [e3] at e2
  rw [e1, bAnd]
  unfold Ow.andNot
  omega
theorem shr (a k : Nat) : (a : Int) / 2 ^ ((k : Nat) : Int).toNat = ((a >>> k : Nat) : Int) := by
  rw [Int.toNat_natCast, Nat.shiftRight_eq_div_pow]
  push_cast
  rfl
theorem min2 (a b : Nat) : (if (b : Int) < (a : Int) then (b : Int) else (a : Int)) = ((min a b : Nat) : Int) := by
  by_cases h : (b : Int) < (a : Int)
  · rw [if_pos h, Nat.min_eq_right (by omega)]
  · rw [if_neg h, Nat.min_eq_left (by omega)]
end Oc
set_option Elab.async false
set_option linter.all false
set_option maxRecDepth 100000
set_option maxHeartbeats 4000000
/-! rules that the layer lacks: t[::-1] of a tuple, a walk over a list or tuple -/
namespace Oc
open PySem PySem.Spec PyProof.Rows L2
section
variable {prog : Program} {w : World} {A : Around} {E : Value → Shared → Prop} {s : Shared}
theorem adjust_rev (n : Nat) : Builtin.Slice.sliceAdjust none none (-1) (n : Int) = ((n : Int) - 1, -1) := rfl
theorem places_rev (n : Nat) : Builtin.Slice.slicePlaces ((n : Int) - 1) (-1) (-1) = n := by
  unfold Builtin.Slice.slicePlaces
  have h1 : ¬ ((-1 : Int) > 0) := by decide
  by_cases h : (n : Int) - 1 > -1
  · have e : ((n : Int) - 1 - -1 - 1) / (- -1) = (n : Int) - 1 := by
      rw [show (- -1 : Int) = 1 by decide, Int.ediv_one]
      omega
    simp only [h1, if_false, h, if_true, e]
    omega
  · simp only [h1, if_false, h]
    omega
theorem pick_rev (xs : Array Value) : ((List.range xs.size).filterMap fun (m : Nat) => xs[((xs.size : Int) - 1 + (m : Int) * -1).toNat]?).toArray = xs.toList.reverse.toArray := by
  have e : ((List.range xs.size).filterMap fun (m : Nat) => xs[((xs.size : Int) - 1 + (m : Int) * -1).toNat]?) = ((List.range xs.size).map fun (m : Nat) => ((xs.size : Int) - 1 + (m : Int) * -1).toNat).filterMap (xs[·]?) := by rw [List.filterMap_map]; rfl
  have e2 : ((List.range xs.size).map fun (m : Nat) => ((xs.size : Int) - 1 + (m : Int) * -1).toNat) = (List.range xs.size).map fun k => xs.size - 1 - k := by
    apply List.map_congr_left
    intro m hm
    have hm' := List.mem_range.mp hm
    omega
  rw [e, e2, PySem.W.krv_range, List.filterMap_reverse, PySem.W.krv_all]
theorem sliceApplied_rev {sl : Addr} {vl vu vs : Value} {n : Nat} {Q : Int × Int × Nat → Shared → Prop} (hs : s.heap.IsSliceOf sl vl vu vs) (pl : IsPart vl none) (pu : IsPart vu none) (ps : IsPart vs (some (-1)))
    (h : Q ((n : Int) - 1, -1, n) s) : wpAny (model prog w) A (Builtin.Slice.sliceApplied (.ref sl) (pure (n : Int))) Q E s := by
  obtain ⟨os, hos, hcs, hds⟩ := id hs
  unfold Builtin.Slice.sliceApplied Builtin.Slice.sliceFields
  refine wpAny_bind (wpAny_bind (wpAny_field hos hds (x := vl) rfl (wpAny_bind (wpAny_field hos hds (x := vu) rfl (wpAny_bind (wpAny_field hos hds (x := vs) rfl (wpAny_pure ?_)))))))
  refine wpAny_bind (HT.slicePart_ ps ?_)
  show wpAny _ _ (if ((-1 : Int) == 0) = true then _ else _) _ _ s
  rw [if_neg (by decide)]
  refine wpAny_bind (HT.slicePart_ pl (wpAny_bind (HT.slicePart_ pu (wpAny_bind (wpAny_pure ?_)))))
  show wpAny _ _ (match Builtin.Slice.sliceAdjust none none (-1) (n : Int) with | (lo, hi) => pure (lo, (-1 : Int), Builtin.Slice.slicePlaces lo hi (-1))) _ _ s
  rw [adjust_rev n]
  show wpAny _ _ (pure (((n : Int) - 1), (-1 : Int), Builtin.Slice.slicePlaces ((n : Int) - 1) (-1) (-1))) _ _ s
  rw [places_rev]
  exact wpAny_pure h
theorem getItem_tuple_rev {t sl : Addr} {items : Array Value} {vl vu vs : Value} {Q : Value → Shared → Prop} (ht : IsTup s.heap t items) (hs : s.heap.IsSliceOf sl vl vu vs) (pl : IsPart vl none) (pu : IsPart vu none) (ps : IsPart vs (some (-1)))
    (h : Q (.ref s.heap.objs.size) { s with heap := s.heap.push { cls := .type "tuple", data := .seq items.toList.reverse.toArray } })
    (hsz : items.size ≤ sizeLine) : wpAny (model prog w) A (getItem (.ref t) (.ref sl)) Q E s := by
  have htake : sizeOk (.seq items.toList.reverse.toArray) := by
    show items.toList.reverse.toArray.size ≤ sizeLine
    rw [List.size_toArray, List.length_reverse, Array.length_toList]
    exact hsz
  obtain ⟨os, hos, hcs, hds⟩ := id hs
  have hTs : s.TypeIs (.ref sl) "slice" := ⟨os, hos, hcs⟩
  unfold getItem
  try with_reducible refine wpAny_holding ?_
  first | refine wpAny_bind (wpAny_pure ?_) | skip
  refine wpAny_bind (wpAny_sequenceKey ht.typeIs (by decide) ?_)
  refine wpAny_bind (wpAny_callSpecial?_slot (name := Str.ofString "__getitem__") ht.typeIs PyProof.Rows.slot_tuple_getitem
    (wpAny_call_entry PyProof.Rows.slot_tuple_getitem ht.typeIs entry_tuple_getitem ?_ (args_tuple_getitem _ _)))
  show wpAny _ _ (Builtin.Tuple.tupleItemsOf (.ref t) >>= _) _ _ s
  refine wpAny_bind (tupleItemsOf_ ht ?_)
  refine wpAny_bind (wpAny_typeOf hTs ?_)
  rw [if_pos (by decide)]
  refine wpAny_bind (sliceApplied_rev hs pl pu ps ?_)
  have hno : ¬ ((((items.size : Int) - 1) == 0 && (-1 : Int) == 1 && items.size == items.size) = true) := by
    intro q
    rw [Bool.and_eq_true, Bool.and_eq_true] at q
    exact absurd q.1.2 (by decide)
  show wpAny _ _ (if (((items.size : Int) - 1) == 0 && (-1 : Int) == 1 && items.size == items.size) = true then _ else _) _ _ s
  rw [if_neg hno, pick_rev]
  first
    | exact wpAny_bind (m := Builtin.Tuple.tupleExact _) (wpAny_newObj_type (wpAny_pure ⟨_, rfl, wpAny_pure h⟩) htake)
    | exact wpAny_bind (m := Builtin.Tuple.tupleExact _) (wpAny_newObj_type (wpAny_bind (wpAny_pure (wpAny_pure ⟨_, rfl, wpAny_pure h⟩))) htake)
    | exact wpAny_bind (wpAny_bind (m := Builtin.Tuple.tupleExact _) (wpAny_newObj_type (wpAny_pure (wpAny_pure ⟨_, rfl, wpAny_pure h⟩)) htake))
    | exact wpAny_bind (wpAny_bind (m := Builtin.Tuple.tupleExact _) (wpAny_newObj_type (wpAny_pure ⟨_, rfl, wpAny_pure h⟩) htake))
end
section
variable {X : Cx} {tg : Expr}
def tRevA (K : PySem.W.Frag) (te : TE) : TE := fun σ H Q => te σ H fun x H1 => ∃ a xs, x = .ref a ∧ ((SqL K H1 a xs ∧ ∀ p, H1 p = none → Q (.ref p) (upd H1 p (.lst xs.reverse))) ∨ (SqT K H1 a xs ∧ ∀ p, H1 p = none → Q (.ref p) (upd H1 p (.tup xs.reverse))))
theorem pe_revA {e : Expr} {te : TE} {k : Nat} {p1 p2 p3 pos : Pos} (he : PE X e te) : PE X (.Subscript e (.Slice none none (some (.UnaryOp .USub (.Constant (.int 1) k p1) p2)) p3) pos) (tRevA X.K te) := by
  refine ⟨fun pins s σ H Q I h => ?_⟩
  refine Subscript_ (thn (he.run pins s σ H _ I h) fun v s1 ⟨x, H1, I1, r1, q1⟩ => ?_)
  obtain ⟨a, xs, ex, q⟩ := q1
  subst ex
  cases r1
  have hst : PO X (some (.UnaryOp .USub (.Constant (.int 1) k p1) p2)) (tPart (tUn (rU fun i => .int (-i)) (tC (.int 1)))) := po_some (pe_un un_neg pe_int)
  refine wpAny_Slice (thn (po_none.run pins s1 σ H1 (fun o H2 => o = none ∧ H2 = H1) I1 ⟨rfl, rfl⟩) fun vl s2 ⟨l, H2, I2, pl, el, e2⟩ => ?_)
  subst el e2
  refine thn (po_none.run pins s2 σ H2 (fun o H3 => o = none ∧ H3 = H2) I2 ⟨rfl, rfl⟩) fun vu s3 ⟨u, H3, I3, pu, eu, e3⟩ => ?_
  subst eu e3
  refine thn (hst.run pins s3 σ H3 (fun o H4 => o = some (-1) ∧ H4 = H3) I3 ⟨1, rfl, -1, rfl, rfl, rfl⟩) fun vs s4 ⟨o, H4, I4, ps, eo, e4⟩ => ?_
  subst eo e4
  have I5 : Inv X pins σ H4 { s4 with heap := s4.heap.push { cls := .type "slice", data := .fields #[vl, vu, vs] } } := I4.kept (t' := s4.toks) fun b ob q => Heap.get?_push_of_some _ q
  show wpAny (model X.prog X.w) X.A (subscriptTail e (.Slice none none (some (.UnaryOp .USub (.Constant (.int 1) k p1) p2)) p3) (.ref a) (.ref s4.heap.objs.size)) (EP X pins σ Q) X.xe { s4 with heap := s4.heap.push { cls := .type "slice", data := .fields #[vl, vu, vs] } }
  rcases q with ⟨hx, q⟩ | ⟨hx, q⟩
  · obtain ⟨its, r, ht, hz⟩ := I5.list hx
    have hlen := r.length
    refine tail_any (ops := [.ref a, .ref s4.heap.objs.size]) ht.isList.typeIs (PySem.slot_list_getitem.lookup) ?_ (by with_unfolding_all rfl)
    refine wpAny_getItem_list_slice ht.isList (Heap.IsSliceOf.new _ vl vu vs) pl pu ps (by decide) ?_ (by rw [List.size_toArray]; omega)
    rw [PySem.W.krv_pick]
    refine ⟨.ref _, _, I5.laid (t' := s4.toks) (o := .lst xs.reverse) (fun b ob q => Heap.get?_push_of_some _ q) (Nat.le_refl _) ?_, rfl, q _ (I5.hok.fresh (Nat.le_refl _))⟩
    exact ⟨by rw [List.length_reverse]; exact hz, _, 0, r.reverse, Heap.get?_push_size _ rfl⟩
  · obtain ⟨its, r, ht, hz⟩ := I5.tuple hx
    have hlen := r.length
    refine tail_any (ops := [.ref a, .ref s4.heap.objs.size]) ht.typeIs (PyProof.Rows.slot_tuple_getitem.lookup) ?_ (by with_unfolding_all rfl)
    refine getItem_tuple_rev ht (Heap.IsSliceOf.new _ vl vu vs) pl pu ps ?_ (by rw [List.size_toArray]; omega)
    refine ⟨.ref _, _, I5.laid (t' := s4.toks) (o := .tup xs.reverse) (fun b ob q => Heap.get?_push_of_some _ q) (Nat.le_refl _) ?_, rfl, q _ (I5.hok.fresh (Nat.le_refl _))⟩
    exact ⟨by rw [List.length_reverse]; exact hz, _, r.reverse, IsTup.new _ _⟩
/-- a list or a tuple walked -/
def iSeq (K : PySem.W.Frag) (tl : TE) : TI := fun σ H R => tl σ H fun x H1 => ∃ a, x = .ref a ∧ (((∃ xs, SqL K H1 a xs) ∧ R (Itl K a) H1) ∨ ((∃ xs, SqT K H1 a xs) ∧ R (Itt K a) H1))
theorem pi_seq {l : Expr} {tl : TE} (hl : PE X l tl) : PI X tg l (iSeq X.K tl) := by
  refine ⟨fun pins s σ H R I h => ?_⟩
  refine thn (hl.run pins s σ H _ I h) fun v s1 ⟨x, H1, I1, r1, q1⟩ => ?_
  obtain ⟨a, e, q⟩ := q1
  subst e
  cases r1
  rcases q with ⟨⟨xs, hq⟩, q⟩ | ⟨⟨xs, hq⟩, q⟩
  · obtain ⟨its, rv, p, hz⟩ := I1.list hq
    refine wpAny_pyIter_list p.isList ?_
    refine ⟨s1.heap.objs.size, [s1.heap.objs.size], _, _, H1, rfl, I1.kept (t' := s1.toks) fun b o e => Heap.get?_push_of_some _ e, turn_list a _, ⟨_, Heap.get?_push_size _ rfl, rfl, rfl⟩, fun b hb => ?_, q⟩
    have e : b = s1.heap.objs.size := by simpa using hb
    subst e
    exact I1.fpOk (Nat.le_refl _) (I1.hok.fresh (Nat.le_refl _))
  · obtain ⟨its, rv, p, hz⟩ := I1.tuple hq
    refine wpAny_pyIter_tuple (show s1.heap.IsTuple a its.toArray from p) ?_
    refine ⟨s1.heap.objs.size, [s1.heap.objs.size], _, _, H1, rfl, I1.kept (t' := s1.toks) fun b o e => Heap.get?_push_of_some _ e, turn_tuple a _, ⟨_, Heap.get?_push_size _ rfl, rfl, rfl⟩, fun b hb => ?_, q⟩
    have e : b = s1.heap.objs.size := by simpa using hb
    subst e
    exact I1.fpOk (Nat.le_refl _) (I1.hok.fresh (Nat.le_refl _))
end
end Oc
set_option Elab.async false
set_option linter.all false
set_option maxRecDepth 100000
set_option maxHeartbeats 4000000
/-! enumerate of a tuple, zip of a tuple and a list -/
namespace Oc
open PySem PySem.Spec PyProof.Rows L2
theorem meets_enum1 {v : Value} {o : Obj} {H : Heap → Prop} (B : Begins v o H) (hs : ∀ x, v ≠ .str x 0) (hr : ∃ a, v = .ref a) :
    Meets (Builtin.«enumerate.__new__» ⟨[.type "enumerate", v], []⟩) (fun _ R s => H s.heap ∧
      R (.ok (.ret (.ref (s.heap.push o).objs.size))) { s with heap := (s.heap.push o).push { cls := .type "enumerate", data := .fields #[.none, .bool false, .ref s.heap.objs.size, rawInt 0, .none, .none] } }) :=
  .of_wp fun prog w A R s h => by
    obtain ⟨hp, g, d, tk, os⟩ := s; obtain ⟨h1, h⟩ := h
    obtain ⟨a, rfl⟩ := hr
    have hsub := sub_enumerate
    have q1 : ∀ {A' : Around} {E : Value → Shared → Prop} {Q : Value → Shared → Prop}, Q (.ref hp.objs.size) ⟨hp.push o, g, d, tk, os⟩ → wpAny (model prog w) A' (pyIter (.ref a)) Q E ⟨hp, g, d, tk, os⟩ :=
      fun q => B.iter prog w _ _ ⟨hp, g, d, tk, os⟩ _ h1 q
    wp_walk using q1
    refine wpAny_stack_any fun st => wpAny_pure ?_
    split
    · rename_i c _ _ _ _ _
      cases (c == Value.type "enumerate")
      · wp_walk using q1
        exact ⟨_, rfl, h⟩
      · wp_walk using q1
        exact ⟨_, rfl, h⟩
    · wp_walk using q1
      exact ⟨_, rfl, h⟩
section
variable {prog : Program} {w : World} {A : Around} {E : Value → Shared → Prop} {s : Shared}
theorem enum1_begins {a : Addr} {o : Obj} {H : Heap → Prop} {Q : Value → Shared → Prop} (B : Begins (.ref a) o H) (h1 : H s.heap)
    (h : ∀ h', IsEnum h' (s.heap.objs.size + 1) s.heap.objs.size 0 .none → h'.get? s.heap.objs.size = some o → h'.objs.size = s.heap.objs.size + 2 →
      (∀ b o, s.heap.get? b = some o → h'.get? b = some o) → Q (.ref (s.heap.objs.size + 1)) { s with heap := h' }) :
    wpAny (model prog w) A (call (.type "enumerate") [.ref a]) Q E s := by
  refine callType_new F.called_enumerate (by decide) (F.typeCall_enumerate_1 _) (F.newCall_enumerate_1 _) (fun obj => F.args_object_init_2 obj _) F.entry_enumerate_new
    (meets_enum1 B (fun _ q => nomatch q) ⟨a, rfl⟩) ⟨h1, ?_⟩
  have hz : (s.heap.push o).objs.size = s.heap.objs.size + 1 := Heap.size_push ..
  show _ ∧ _
  rw [hz]
  have he : IsEnum ((s.heap.push o).push { cls := .type "enumerate", data := .fields #[.none, .bool false, .ref s.heap.objs.size, rawInt 0, .none, .none] }) (s.heap.objs.size + 1) s.heap.objs.size 0 .none := by
    have := Heap.get?_push_size (s.heap.push o) (o := { cls := .type "enumerate", data := .fields #[.none, .bool false, .ref s.heap.objs.size, rawInt 0, .none, .none] }) rfl
    rw [hz] at this; exact this
  refine ⟨⟨_, he, rfl⟩, h _ he (Heap.get?_push_of_some _ (Heap.get?_push_size _ B.free)) (by rw [Heap.size_push, hz]) fun b o x => Heap.get?_push_of_some _ (Heap.get?_push_of_some _ x)⟩
end
/-! the walk over enumerate(tuple) -/
def IteT (K : PySem.W.Frag) (a : Addr) : It :=
  ⟨fun i H => ∃ (xs : List V) (x : V), SqT K H a xs ∧ xs[i]? = some x, fun i H v H' => ∃ T x, v = .ref T ∧ H T = none ∧ H' = upd H T (.tup [.int (i : Nat), x]) ∧ ∀ xs, SqT K H a xs → xs[i]? = some x, fun i H => ∃ xs : List V, SqT K H a xs ∧ xs.length = i⟩
theorem turn_enumT {P : Program} {w : World} {K : PySem.W.Frag} {elts : List Expr} {kk : Nat} {tpos : Pos} (a e it : Addr) (hae : e ≠ a) (hai : a ≠ it) :
    Turn P w K (.Tuple elts kk tpos) (IteT K a) [e, it] e (fun i h => (∃ old, IsEnum h e it ((i : Nat) : Int) old) ∧ h.IsTupleIter it a i ∧ e ≠ it) where
  mem := by simp
  obj := fun i h st b hb => by
    obtain ⟨⟨old, he⟩, ⟨o, ho, hc, hd⟩, _⟩ := st
    have e' : b = e ∨ b = it := by simpa using hb
    rcases e' with z | z
    · rw [z]; exact ⟨_, he, fun v q => nomatch q⟩
    · rw [z]; exact ⟨o, ho, fun v q => by rw [hd] at q; cases q⟩
  keep := fun i h h' st k => let ⟨⟨old, he⟩, hi, hne⟩ := st; ⟨⟨old, k e (by simp) _ he⟩, hi.at fun o q => k it (by simp) o q, hne⟩
  item := by
    intro X hP hw hK hc i pins s σ H E I hf st hg
    subst hP hw hK
    obtain ⟨⟨old, he⟩, hit, hne⟩ := st
    obtain ⟨xs, x, hq, hx⟩ := hg
    obtain ⟨its, rv, p, hz⟩ := I.tuple hq
    obtain ⟨u, hu, ru⟩ := rv.get hx
    have hel : e < s.heap.objs.size := Heap.lt_size he
    have hil : it < s.heap.objs.size := by obtain ⟨_, q, _⟩ := hit; exact Heap.lt_size q
    have hlt : i < its.toArray.size := by
      have := (List.getElem?_eq_some_iff.mp hu).1
      simpa using this
    have hd : X.A.in1.handled = none := I.ok.hd hc
    refine wpAny_pyNext_enum_itemC (Draws.tuple hd it a hai its.toArray) he ⟨hit, p⟩ hlt hne (by simp [hne, hae]) fun y h' tk hy ho hst hT hsz hk => ?_
    have ey : y = u := by
      have : its.toArray[i]? = some u := by simpa using hu
      exact Option.some.inj (hy.symm.trans this)
    subst ey
    obtain ⟨hit', _⟩ := hst
    refine ⟨_, rfl, wpAny_letOwnedTupleGo_enum (s := { s with heap := h', toks := tk + 1 }) ho fun h'' he' sb => ?_⟩
    have hT2 : h''.get? s.heap.objs.size = some { cls := .type "tuple", data := .seq #[.int i tk, y] } := (sb.2 _ (Nat.ne_of_gt hel)).trans hT
    have new : ObjOk X.prog X.w (upd H s.heap.objs.size (.tup [.int (i : Nat), x])) h'' s.heap.objs.size (.tup [.int (i : Nat), x]) :=
      ⟨by show 2 ≤ sizeLine; decide, [.int i tk, y], .cons ⟨_, rfl⟩ (.cons ru .nil), ⟨_, hT2, rfl, _, rfl⟩⟩
    have I1 : Inv X pins σ (upd H s.heap.objs.size (.tup [.int (i : Nat), x])) { s with heap := h'', toks := tk + 1 } :=
      I.turnedNew (ch := [e, it]) (fun b ob hb q => (sb.2 b (fun z => hb (by simp [z]))).trans (hk b ob (fun z => hb (by simp [z])) (fun z => hb (by simp [z])) q)) hf (Nat.le_refl _) new
    refine ⟨.ref s.heap.objs.size, _, I1, rfl, ⟨_, x, rfl, I.hok.fresh (Nat.le_refl _), rfl, fun ys hy => by rw [I.tuple_inj hy hq]; exact hx⟩, ⟨⟨y, ?_⟩, hit'.at fun o q => (sb.2 it (Ne.symm hne)).trans q, hne⟩, fun b hb => ?_⟩
    · have e1 : ((i + 1 : Nat) : Int) = (i : Int) + 1 := by omega
      rw [e1]; exact he'
    · have hb' : b < s.heap.objs.size := by
        have e' : b = e ∨ b = it := by simpa using hb
        rcases e' with z | z
        · rw [z]; exact hel
        · rw [z]; exact hil
      rw [upd_ne (Nat.ne_of_lt hb')]
      exact (hf b hb).1
  done := by
    intro X hP hw hK hc i pins s σ H E I hf st hg
    subst hP hw hK
    obtain ⟨⟨old, he⟩, hit, hne⟩ := st
    obtain ⟨xs, hq, hx⟩ := hg
    obtain ⟨its, rv, p, hz⟩ := I.tuple hq
    have hl := rv.length
    have hd : X.A.in1.handled = none := I.ok.hd hc
    have hi : its.toArray.size = i := by rw [List.size_toArray]; omega
    refine wpAny_pyNext_enum_endD (Draws.tuple hd it a hai its.toArray) he (by rw [hi]; exact ⟨hit, p⟩) fun h' eb => ⟨rfl, I.turnedL (t' := s.toks) (ch := [e, it]) (fun b o hb q => eb b o (fun z => hb (by simp [z])) q) hf⟩
  self := fun A i s Q E st h => let ⟨⟨_, he⟩, _⟩ := st; wpAny_pyIter_enum he h
def iEnumT (K : PySem.W.Frag) (ta : TA) : TI := fun σ H R => ta σ H fun vs H1 => ∃ a xs, vs = [.ref a] ∧ SqT K H1 a xs ∧ R (IteT K a) H1
theorem pi_enumT {X : Cx} {e : Expr} {ta : TA} {p pos tpos : Pos} {elts : List Expr} {kk : Nat} (hg : Gl X "enumerate") (hm : X.mg "enumerate" = none) (ha : PA X [e] ta) (hs : starEach [e] X.env = [(false, eval e X.env)] := by rfl) :
    PI X (.Tuple elts kk tpos) (.Call (.Name "enumerate" p) [e] [] pos) (iEnumT X.K ta) := by
  refine ⟨fun pins s σ H R I h => ?_⟩
  refine Call_ (ld_blt I hg hm boot_enumerate (PyProof.Rows.callWith_type1 (thn (ha.run pos pins s σ H _ I h) fun us s1 ⟨vs, H1, I1, r1, q1⟩ => ?_) hs rfl))
  obtain ⟨a, xs, ex, hq, q⟩ := q1
  subst ex
  cases r1 with
  | cons r rr =>
    cases rr
    cases r
    obtain ⟨its, rv, p', hz⟩ := I1.tuple hq
    have hlt : a < s1.heap.objs.size := p'.lt
    refine enum1_begins (begins_tuple a its.toArray) p' fun h' he hit hsz hk => wpAny_pyIter_enum he ?_
    have I2 : Inv X pins σ H1 { s1 with heap := h' } := I1.kept (t' := s1.toks) hk
    refine ⟨s1.heap.objs.size + 1, [s1.heap.objs.size + 1, s1.heap.objs.size], _, _, H1, rfl, I2, turn_enumT a (s1.heap.objs.size + 1) s1.heap.objs.size (Nat.ne_of_gt (Nat.lt_succ_of_lt hlt)) (Nat.ne_of_lt hlt), ⟨⟨.none, he⟩, ⟨_, hit, rfl, rfl⟩, Nat.succ_ne_self _⟩, fun b hb => ?_, q⟩
    have e' : b = s1.heap.objs.size + 1 ∨ b = s1.heap.objs.size := by simpa using hb
    have hle : s1.heap.objs.size ≤ b := by
      rcases e' with z | z
      · rw [z]; exact Nat.le_add_right _ _
      · rw [z]; exact Nat.le_refl _
    exact I1.fpOk hle (I1.hok.fresh hle)
/-! the walk over zip(tuple, list) -/
def ItzM (K : PySem.W.Frag) (a b : Addr) : It :=
  ⟨fun i H => ∃ (xs ys : List V) (x y : V), SqT K H a xs ∧ SqL K H b ys ∧ xs[i]? = some x ∧ ys[i]? = some y,
    fun i H v H' => ∃ T x y, v = .ref T ∧ H T = none ∧ H' = upd H T (.tup [x, y]) ∧ (∀ xs, SqT K H a xs → xs[i]? = some x) ∧ ∀ ys, SqL K H b ys → ys[i]? = some y,
    fun i H => ∃ xs ys : List V, SqT K H a xs ∧ SqL K H b ys ∧ i = min xs.length ys.length⟩
theorem turn_zipM {P : Program} {w : World} {K : PySem.W.Frag} {elts : List Expr} {kk : Nat} {tpos : Pos} {a b N : Addr} (ha : a < N) (hb : b < N) :
    Turn P w K (.Tuple elts kk tpos) (ItzM K a b) [N + 4, N + 2, N + 3, N, N + 1] (N + 4) (fun i h => IsZip h (N + 4) (N + 2) (N + 3) .none ∧ IsTupOf2 h (N + 2) (.ref N) (.ref (N + 1)) ∧ (∃ x y, IsTupOf2 h (N + 3) x y) ∧ h.IsTupleIter N a i ∧ h.IsListIter (N + 1) b i) where
  mem := by simp
  obj := fun i h st c hc => by
    obtain ⟨hz, hTI, ⟨x, y, hTO⟩, ⟨o1, e1, _, d1⟩, ⟨o2, e2, _, d2⟩⟩ := st
    have e' : c = N + 4 ∨ c = N + 2 ∨ c = N + 3 ∨ c = N ∨ c = N + 1 := by simpa using hc
    rcases e' with q | q | q | q | q
    · rw [q]; exact ⟨_, hz, fun v q => nomatch q⟩
    · rw [q]; exact ⟨_, hTI, fun v q => nomatch q⟩
    · rw [q]; exact ⟨_, hTO, fun v q => nomatch q⟩
    · rw [q]; exact ⟨o1, e1, fun v q => by rw [d1] at q; cases q⟩
    · rw [q]; exact ⟨o2, e2, fun v q => by rw [d2] at q; cases q⟩
  keep := fun i h h' st k => by
    obtain ⟨hz, hTI, ⟨x, y, hTO⟩, h1, h2⟩ := st
    exact ⟨k (N + 4) (by simp) _ hz, k (N + 2) (by simp) _ hTI, ⟨x, y, k (N + 3) (by simp) _ hTO⟩, h1.at fun o q => k N (by simp) o q, h2.at fun o q => k (N + 1) (by simp) o q⟩
  item := by
    intro X hP hw hK hc i pins s σ H E I hf st hg
    subst hP hw hK
    obtain ⟨hz, hTI, hTO, h1, h2⟩ := st
    obtain ⟨xs, ys, x, y, hqx, hqy, hx, hy⟩ := hg
    obtain ⟨its, rv, p, _⟩ := I.tuple hqx
    obtain ⟨its2, rv2, p2, _⟩ := I.list hqy
    obtain ⟨u, hu, ru⟩ := rv.get hx
    obtain ⟨u2, hu2, ru2⟩ := rv2.get hy
    have hd : X.A.in1.handled = none := I.ok.hd hc
    have S : ZipSep2 (N + 4) (N + 2) (N + 3) N (N + 1) [N, a] [N + 1, b] := zip_sep2 (N := N) (fp1 := [a]) (fp2 := [b]) (by simpa using ha) (by simpa using hb)
    have G := GoesN.zip2 (elts := elts) (x1 := kk) (pos := tpos) (A := X.A) S (Draws.tuple (prog := X.prog) (w := X.w) hd N a (Nat.ne_of_lt ha) its.toArray) (Draws.list (prog := X.prog) (w := X.w) hd (N + 1) b (Nat.ne_of_lt (Nat.lt_succ_of_lt hb)) its2.toArray)
    have l1 : i < its.toArray.size := by
      have := (List.getElem?_eq_some_iff.mp hu).1
      simpa using this
    have l2 : i < its2.toArray.size := by
      have := (List.getElem?_eq_some_iff.mp hu2).1
      simpa using this
    have hzl : N + 4 < s.heap.objs.size := Heap.lt_size hz
    refine G.goes i s _ E (Nat.lt_min.mpr ⟨l1, l2⟩) ⟨hz, hTI, hTO, ⟨h1, p⟩, ⟨h2, p2.isList⟩⟩ fun v h' tk hY hst hk htk => ?_
    obtain ⟨T, y1, y2, rfl, hle, e1, e2, hT⟩ := hY
    have ey1 : y1 = u := Option.some.inj (e1.symm.trans (by simpa using hu))
    have ey2 : y2 = u2 := Option.some.inj (e2.symm.trans (by simpa using hu2))
    subst ey1 ey2
    obtain ⟨z', t', o', ⟨h1', _⟩, ⟨h2', _⟩⟩ := hst
    have new : ObjOk X.prog X.w (upd H T (.tup [x, y])) h' T (.tup [x, y]) :=
      ⟨by show 2 ≤ sizeLine; decide, [y1, y2], .cons ru (.cons ru2 .nil), hT⟩
    have I1 : Inv X pins σ (upd H T (.tup [x, y])) { s with heap := h', toks := tk } :=
      I.turnedNew (ch := [N + 4, N + 2, N + 3, N, N + 1]) (fun c o hb q => hk c o (fun q' => hb (by
        have : c = N + 4 ∨ c = N + 3 ∨ c = N ∨ c = N + 1 := by simpa using q'
        rcases this with z | z | z | z <;> simp [z])) q) hf hle new
    refine ⟨.ref T, _, I1, rfl, ⟨_, x, y, rfl, I.hok.fresh hle, rfl, fun l hl => by rw [I.tuple_inj hl hqx]; exact hx, fun l hl => by rw [I.list_inj hl hqy]; exact hy⟩, ⟨z', t', o', h1', h2'⟩, fun c hcm => ?_⟩
    have hlt : c < s.heap.objs.size := by
      have e' : c = N + 4 ∨ c = N + 2 ∨ c = N + 3 ∨ c = N ∨ c = N + 1 := by simpa using hcm
      have up : ∀ k : Nat, k ≤ 4 → N + k < s.heap.objs.size := fun k hk => Nat.lt_of_le_of_lt (Nat.add_le_add_left hk N) hzl
      rcases e' with q | q | q | q | q <;> rw [q]
      · exact up 4 (by decide)
      · exact up 2 (by decide)
      · exact up 3 (by decide)
      · exact up 0 (by decide)
      · exact up 1 (by decide)
    rw [upd_ne (Nat.ne_of_lt (Nat.lt_of_lt_of_le hlt hle))]
    exact (hf c hcm).1
  done := by
    intro X hP hw hK hc i pins s σ H E I hf st hg
    subst hP hw hK
    obtain ⟨hz, hTI, hTO, h1, h2⟩ := st
    obtain ⟨xs, ys, hqx, hqy, hend⟩ := hg
    obtain ⟨its, rv, p, _⟩ := I.tuple hqx
    obtain ⟨its2, rv2, p2, _⟩ := I.list hqy
    have l1 := rv.length
    have l2 := rv2.length
    have hd : X.A.in1.handled = none := I.ok.hd hc
    have S : ZipSep2 (N + 4) (N + 2) (N + 3) N (N + 1) [N, a] [N + 1, b] := zip_sep2 (N := N) (fp1 := [a]) (fp2 := [b]) (by simpa using ha) (by simpa using hb)
    have G := GoesN.zip2 (elts := elts) (x1 := kk) (pos := tpos) (A := X.A) S (Draws.tuple (prog := X.prog) (w := X.w) hd N a (Nat.ne_of_lt ha) its.toArray) (Draws.list (prog := X.prog) (w := X.w) hd (N + 1) b (Nat.ne_of_lt (Nat.lt_succ_of_lt hb)) its2.toArray)
    have hi : min its.toArray.size its2.toArray.size = i := by rw [List.size_toArray, List.size_toArray, ← l1, ← l2]; exact hend.symm
    refine G.stops s _ E (by rw [hi]; exact ⟨hz, hTI, hTO, ⟨h1, p⟩, ⟨h2, p2.isList⟩⟩) fun h' tk hk htk => I.turnedL (ch := [N + 4, N + 2, N + 3, N, N + 1]) (fun c o hb q => hk c o (fun q' => hb (by
        have : c = N + 4 ∨ c = N + 3 ∨ c = N ∨ c = N + 1 := by simpa using q'
        rcases this with z | z | z | z <;> simp [z])) q) hf
  self := fun A i s Q E st h => wpAny_pyIter_zip st.1 h
def iZipM (K : PySem.W.Frag) (ta : TA) : TI := fun σ H R => ta σ H fun vs H1 => ∃ a b xs ys, vs = [.ref a, .ref b] ∧ SqT K H1 a xs ∧ SqL K H1 b ys ∧ R (ItzM K a b) H1
theorem pi_zipM {X : Cx} {e e2 : Expr} {ta : TA} {p pos tpos : Pos} {elts : List Expr} {kk : Nat} (hg : Gl X "zip") (hm : X.mg "zip" = none) (ha : PA X [e, e2] ta)
    (hs : starEach [e, e2] X.env = (false, eval e X.env) :: starEach [e2] X.env := by rfl) (hpl : (backTo pos (starEach [e2] X.env)).any (·.1) = false := by rfl) :
    PI X (.Tuple elts kk tpos) (.Call (.Name "zip" p) [e, e2] [] pos) (iZipM X.K ta) := by
  refine ⟨fun pins s σ H R I h => ?_⟩
  refine Call_ (ld_blt I hg hm PyProof.Rows.boot_zip (PyProof.Rows.callWith_type1 (thn (ha.run pos pins s σ H _ I h) fun us s1 ⟨vs, H1, I1, r1, q1⟩ => ?_) hs hpl))
  obtain ⟨a, b, xs, ys, ex, hqx, hqy, q⟩ := q1
  subst ex
  cases r1 with
  | cons r rr =>
    cases rr with
    | cons r' rr =>
      cases rr
      cases r
      cases r'
      obtain ⟨its, rv, p1, _⟩ := I1.tuple hqx
      obtain ⟨its2, rv2, p2, _⟩ := I1.list hqy
      refine zip_begins2 (begins_tuple a its.toArray) (begins_list b its2.toArray) p1 p2.isList fun h' hz hTI hTO h1 h2 hsz hk => wpAny_pyIter_zip hz ?_
      have I2 : Inv X pins σ H1 { s1 with heap := h' } := I1.kept (t' := s1.toks) hk
      refine ⟨s1.heap.objs.size + 4, [s1.heap.objs.size + 4, s1.heap.objs.size + 2, s1.heap.objs.size + 3, s1.heap.objs.size, s1.heap.objs.size + 1], _, _, H1, rfl, I2, turn_zipM (a := a) (b := b) p1.lt p2.lt, ⟨hz, hTI, ⟨_, _, hTO⟩, ⟨_, h1, rfl, rfl⟩, ⟨_, h2, rfl, rfl⟩⟩, fun c hcm => ?_, q⟩
      have e' : c = s1.heap.objs.size + 4 ∨ c = s1.heap.objs.size + 2 ∨ c = s1.heap.objs.size + 3 ∨ c = s1.heap.objs.size ∨ c = s1.heap.objs.size + 1 := by simpa using hcm
      have hle : s1.heap.objs.size ≤ c := by
        rcases e' with z | z | z | z | z <;> rw [z]
        · exact Nat.le_add_right _ _
        · exact Nat.le_add_right _ _
        · exact Nat.le_add_right _ _
        · exact Nat.le_refl _
        · exact Nat.le_add_right _ _
      exact I1.fpOk hle (I1.hok.fresh hle)
end Oc
set_option Elab.async false
set_option linter.all false
set_option maxRecDepth 100000
set_option maxHeartbeats 4000000
/-! sorted of data of one kind; set of a list of ints -/
namespace Oc
open PySem PySem.Spec PyProof.Rows L2
/-- an item with its value and what it reads as -/
abbrev Tri := V × Value × PyData
theorem tri_of {X : Cx} {pins : List (Addr × Obj)} {σ : L2.St} {H : Hp} {s : Shared} (I : Inv X pins σ H s) : ∀ {xs : List V} {us : List Value} {ds : List PyData}, Vals xs us → DpAll X.K H xs ds →
    ∃ bs : List Tri, bs.map (·.1) = xs ∧ bs.map (·.2.1) = us ∧ bs.map (·.2.2) = ds ∧ ∀ b ∈ bs, RelV b.1 b.2.1 ∧ ∃ as, Reads s.heap b.2.1 b.2.2 as
  | [], _, _, .nil, .nil => ⟨[], rfl, rfl, rfl, fun b hb => nomatch hb⟩
  | x :: xs, u :: us, d :: ds, .cons r rs, .cons h hs => by
    obtain ⟨bs, e1, e2, e3, e4⟩ := tri_of I rs hs
    refine ⟨(x, u, d) :: bs, by rw [List.map_cons, e1], by rw [List.map_cons, e2], by rw [List.map_cons, e3], fun b hb => ?_⟩
    rcases List.mem_cons.mp hb with rfl | hb
    · exact ⟨r, Dp.reads I d x u h r⟩
    · exact e4 b hb
theorem each_tri {p : Value → Tri → Prop} : ∀ {bs : List Tri}, (∀ b ∈ bs, p b.2.1 b) → PySem.W.EachIs p (bs.map (·.2.1)) bs
  | [], _ => .nil
  | b :: bs, h => .cons (h b List.mem_cons_self) (each_tri fun c hc => h c (List.mem_cons_of_mem _ hc))
theorem each_eq : ∀ {out : List Value} {bs : List Tri}, PySem.W.EachIs (fun v b => v = b.2.1) out bs → out = bs.map (·.2.1)
  | _, _, .nil => rfl
  | _, _, .cons h t => by rw [List.map_cons, h, each_eq t]
theorem vals_tri : ∀ {bs : List Tri}, (∀ b ∈ bs, RelV b.1 b.2.1) → Vals (bs.map (·.1)) (bs.map (·.2.1))
  | [], _ => .nil
  | b :: bs, h => .cons (h b List.mem_cons_self) (vals_tri fun c hc => h c (List.mem_cons_of_mem _ hc))
/-- sorted(xs), the items data of one kind: some arrangement of them -/
def rSortedD (K : PySem.W.Frag) : List V → Hp → VK → Prop := fun vs H Q => ∃ (a : Addr) (xs : List V) (ds : List PyData), vs = [V.ref a] ∧ SqL K H a xs ∧ DpAll K H xs ds ∧ PySem.W.AllAlike ds ∧ PySem.W.Sortable ds ∧ (∀ d ∈ ds, d.depth ≤ 60) ∧
  ∀ (ys : List V) (p : Addr), ys.Perm xs → H p = none → Q (.ref p) (upd H p (.lst ys))
section
variable {X : Cx}
theorem cr_sortedD (hu : X.A.units + 64 < cLine) : CallR X (.builtin "sorted") (rSortedD X.K) := by
  intro pins s σ H vs us Q I r h
  obtain ⟨a, xs, ds, rfl, hs, hd, hal, hk, hdep, q⟩ := h
  obtain ⟨its, rv, hl, hz⟩ := I.list hs
  rw [Vals.ref1 r]
  obtain ⟨bs, e1, e2, e3, e4⟩ := tri_of I rv hd
  have hlen : bs.length = xs.length := by rw [← e1, List.length_map]
  rw [← e2] at hl
  refine PySem.W.sorted_data (R := fun v b => v = b.2.1) (bs := bs) (enc := fun b : Tri => b.2.2) (vs := bs.map (·.2.1)) hl.isList (each_tri fun b _ => rfl) (each_tri fun b hb => (e4 b hb).2) (by rw [e3]; exact hal) (by rw [e3]; exact hk) (by rw [hlen]; exact hz)
    (fun b hb => by have := hdep b.2.2 (by rw [← e3]; exact List.mem_map.mpr ⟨b, hb, rfl⟩); omega) fun out ho he => ?_
  have eo := each_eq he
  have hp : (bs.mergeSort (PySem.W.dataLe false fun b : Tri => b.2.2)).Perm bs := List.mergeSort_perm _ _
  obtain ⟨ep, he'⟩ := PyProof.Rows.sortedAll_at s.heap (bs.map (·.2.1)) (List.toArray out)
  have hl2 : ((bs.mergeSort (PySem.W.dataLe false fun b : Tri => b.2.2)).map (·.1)).length ≤ sizeLine := by rw [List.length_map, hp.length_eq, hlen]; exact hz
  refine ⟨.ref _, upd H (s.heap.objs.size + 1) (.lst ((bs.mergeSort (PySem.W.dataLe false fun b : Tri => b.2.2)).map (·.1))), I.laid (t' := s.toks) (fun _ _ => PyProof.Rows.sortedAll_old) (Nat.le_succ _) ⟨hl2, out, ep, ?_, he'⟩, rfl, q _ _ ?_ (I.hok.fresh (Nat.le_succ _))⟩
  · rw [eo]
    exact vals_tri fun b hb => (e4 b (hp.mem_iff.mp hb)).1
  · rw [← e1]
    exact hp.map _
end
end Oc
set_option Elab.async false
set_option linter.all false
set_option maxRecDepth 100000
set_option maxHeartbeats 4000000
/-! set(xs) of a list of ints, sorted afterwards: turned from the layer's rule for tuples -/
namespace Oc
open PySem PySem.Spec PyProof.Rows L2
section
variable {P : Program} {w : World} {A : Around} {E : Value → Shared → Prop} {s : Shared}
abbrev newSet (w : World) : Obj := { cls := .type "set", dict := none, data := .set #[] 0 (.fresh 0 0 (!w.params.followText "set-order")) }
set_option maxHeartbeats 8000000 in
theorem set_of_list {l : Addr} {items : Array Value} (ns : List Int) {Q : Value → Shared → Prop} (hh : A.handled = none) (hl : s.heap.IsList l items) (hit : IntsAre items.toList ns) (hb : ns.length + 1 < scanBound)
    (h : ∀ (h' : Heap) (tk c : Nat), SetR w h' s.heap.objs.size (fun j => decide (j ∈ ns)) c → c ≤ ns.length → (∀ b o, s.heap.get? b = some o → h'.get? b = some o) → Q (.ref s.heap.objs.size) { s with heap := h', toks := tk }) :
    wpAny (model P w) A (call (.type "set") [.ref l]) Q E s := by
  have nItems : items.size = ns.length := by
    have q := IntsAre.length hit
    rw [Array.length_toList] at q
    exact q
  obtain ⟨c, tl, hmro⟩ := F.called_set.mro
  have hmade := F.called_set.made
  have hsub := F.called_set.sub
  refine wpAny_call (codeAny_of_tree ?_)
  show wpAny _ _ (callAny (.type "set") _) _ _ _
  refine wpAny_pure ⟨Code.quiet_builtin _ (by decide +kernel), codeAny_builtin F.entry_type_call ?_⟩
  rw [Around.under_plain (weight_type_call_type "set" [.ref l] []) rfl]
  have k1 := F.called_set.notType
  have k2 := F.called_set.canCreate
  have k3 := F.typeCall_set_1 (.ref l)
  repeat (any_goals (first | assumption | wp_step))
  refine codeAny_mono (code_set_led1 (.ref l) (E := E) (Q₁ := fun obj s₁ => obj = .ref s.heap.objs.size ∧ s₁ = { s with heap := s.heap.push (newSet w) }) ⟨rfl, rfl⟩) fun r s₁ hr => ?_
  cases r with
  | error e => exact hr
  | ok fl =>
    cases fl with
    | ret obj =>
      obtain ⟨rfl, rfl⟩ := hr
      have gS : (s.heap.push (newSet w)).get? s.heap.objs.size = some (newSet w) := Heap.get?_push_size _ rfl
      have tS : Shared.TypeIs { s with heap := s.heap.push (newSet w) } (.ref s.heap.objs.size) "set" := ⟨_, gS, rfl⟩
      have i1 := F.called_set.init.lookup
      have i2 := F.called_set.init.bind (.ref s.heap.objs.size)
      repeat (any_goals (first | assumption | wp_step))
      refine codeAny_mono (codeAny_call_builtin (R := wants (fun r s₂ => r = .none ∧ ∃ h' tk c, s₂ = { s with heap := h', toks := tk } ∧ SetR w h' s.heap.objs.size (fun j => decide (j ∈ ns)) c ∧ c ≤ ns.length ∧
          (∀ b o, s.heap.get? b = some o → h'.get? b = some o)) E) F.called_set.init.plain F.entry_set_init (check_set_init_1 tS ?_)) fun r₂ s₂ hr₂ => ?_
      · obtain ⟨⟨ocls, odict, odata, oslots⟩, hol, hcl, nl, hdl⟩ := hl
        replace hcl : ocls = .type "list" := hcl
        replace hdl : odata = .seq items nl := hdl
        subst hcl hdl
        have hol' : (s.heap.push (newSet w)).get? l = some { cls := .type "list", dict := odict, data := .seq items nl, slots := oslots } := Heap.get?_push_of_some _ hol
        have j1 := F.sub_list_set
        have j2 := F.sub_list_frozenset
        have j3 : (Value.type "list" == Value.type "dict") = false := by decide
        have hl1 : (s.heap.push (newSet w)).IsList l items := ⟨_, hol', rfl, nl, rfl⟩
        unfold Builtin.«set.__init__» noKeywords Builtin.Frozenset.updateFrom
        generalize hPI : pyIter = PI
        wp_walk
        subst hPI
        refine wpAny_pyIter_list hl1 ?_
        refine wpAny_bind (wpAny_runValue ?_)
        have llt : l < s.heap.objs.size := Heap.lt_size hol
        have hh3 : A.in1.in1.in1.handled = none := by simp [hh]
        have neI : l ≠ (s.heap.push (newSet w)).objs.size := by
          rw [Heap.size_push]; exact Nat.ne_of_lt (Nat.lt_succ_of_lt llt)
        have nf : s.heap.objs.size ∉ [(s.heap.push (newSet w)).objs.size, l] := by
          rw [Heap.size_push]; simp only [List.mem_cons, List.mem_singleton, List.not_mem_nil, or_false, not_or]
          exact ⟨Nat.ne_of_lt (Nat.lt_succ_self _), Nat.ne_of_gt llt⟩
        have val : ∀ (i : Nat) (v : Value), items[i]? = some v → ∃ k t, ns[i]? = some k ∧ v = .int k t := fun i v hv => by
          have hi : i < ns.length := by rw [← nItems]; exact (Array.getElem?_eq_some_iff.mp hv).1
          obtain ⟨t, e⟩ := PyProof.Rows.IntsAre.int_at hit i v (by rw [Array.getElem?_toList]; exact hv)
          refine ⟨ns[i], t, List.getElem?_eq_getElem hi, ?_⟩
          rw [e, List.getD_eq_getElem?_getD, List.getElem?_eq_getElem hi] <;> rfl
        refine set_update_ints ((Walks.list hh3 _ l neI items).toS) s.heap.objs.size
          nf ns nItems hb val (items.size - 0) 0 _ (by omega) (Nat.zero_le _)
          ⟨⟨_, Heap.get?_push_size _ rfl, rfl, rfl⟩, (hl1.push _)⟩ ?hS0 ?hR
        case hS0 => exact ⟨0, Nat.le_refl 0, setR_new_at (Heap.get?_push_of_some _ gS)⟩
        case hR =>
          intro s' c' hm hc' hS'
          obtain ⟨h', g2, d', tk', os'⟩ := s'
          have eg : g2 = s.gens := hm.gens
          have ed : d' = s.drawn := hm.drawn
          have eo : os' = s.os := hm.os
          subst eg; subst ed; subst eo
          refine wpAny_pure ?_
          show wpAny _ _ (ret Value.none) _ _ _
          rw [nItems] at hc'
          refine wpAny_pure ⟨rfl, h', tk', c', rfl, hS', hc', fun b o e => ?_⟩
          have b0 : b < s.heap.objs.size := Heap.lt_size e
          have b2 : b ≠ (s.heap.push (newSet w)).objs.size := by
            rw [Heap.size_push]; exact Nat.ne_of_lt (Nat.lt_succ_of_lt b0)
          exact hm.heap b o (by simp only [List.mem_cons, List.mem_singleton, List.not_mem_nil, or_false, not_or]; exact ⟨Nat.ne_of_lt b0, b2⟩) (Heap.get?_push_of_some _ (Heap.get?_push_of_some _ e))
      · cases r₂ with
        | error e => exact hr₂
        | ok fl₂ =>
          cases fl₂ with
          | ret r =>
            obtain ⟨rfl, h', tk, c', rfl, hS', hc', hk'⟩ := hr₂
            repeat (any_goals (first | assumption | wp_step))
            exact h _ _ _ hS' hc' hk'
          | _ => exact hr₂.elim
    | _ => exact hr.elim
end
/-- set(xs), a list of ints -/
def rSetI (K : PySem.W.Frag) (w : World) : List V → Hp → VK → Prop := fun xs H Q => ∃ (l : Addr) (ns : List Int), xs = [V.ref l] ∧ SqL K H l (ns.map V.int) ∧ ns.length ≤ 1000 ∧ ∀ (p : Addr) (c : Nat), H p = none → c ≤ ns.length → Q (.ref p) (upd H p (SetO w p (fun j => decide (j ∈ ns)) c))
section
variable {X : Cx}
theorem cr_setI (hc : X.calm = true := by rfl) : CallR X (.type "set") (rSetI X.K X.w) := by
  intro pins s σ H vs us Q I r h
  obtain ⟨l, ns, rfl, hs, hz, q⟩ := h
  obtain ⟨its, rv, hl, _⟩ := I.list hs
  rw [Vals.ref1 r]
  have hi := rv.ints
  refine set_of_list (P := X.prog) (w := X.w) ns (I.ok.hd hc) hl.isList (by simpa using hi) (by unfold scanBound; omega) fun h' tk c R hcl k => ?_
  have hn : H s.heap.objs.size = none := I.hok.fresh (Nat.le_refl _)
  exact ⟨.ref _, upd H s.heap.objs.size (SetO X.w s.heap.objs.size (fun j => decide (j ∈ ns)) c), I.laid (t' := tk) k (Nat.le_refl _) (setO_new R), rfl, q _ c hn hcl⟩
end
end Oc
set_option Elab.async false
set_option linter.all false
set_option maxRecDepth 100000
set_option maxHeartbeats 4000000
namespace Oc
open PySem PySem.Spec PyProof.Rows L2
/-! built-ins by name -/
theorem bt_abs : bootBuiltins "abs" = some (.builtin "abs") := by decide +kernel
theorem bt_all : bootBuiltins "all" = some (.builtin "all") := by decide +kernel
theorem bt_divmod : bootBuiltins "divmod" = some (.builtin "divmod") := by decide +kernel
theorem bt_int : bootBuiltins "int" = some (.type "int") := by decide +kernel
theorem bt_isinstance : bootBuiltins "isinstance" = some (.builtin "isinstance") := by decide +kernel
theorem bt_len : bootBuiltins "len" = some (.builtin "len") := by decide +kernel
theorem bt_list : bootBuiltins "list" = some (.type "list") := by decide +kernel
theorem bt_max : bootBuiltins "max" = some (.builtin "max") := by decide +kernel
theorem bt_min : bootBuiltins "min" = some (.builtin "min") := by decide +kernel
theorem bt_set : bootBuiltins "set" = some (.type "set") := by decide +kernel
theorem bt_sorted : bootBuiltins "sorted" = some (.builtin "sorted") := by decide +kernel
theorem bt_sum : bootBuiltins "sum" = some (.builtin "sum") := by decide +kernel
theorem bt_tuple : bootBuiltins "tuple" = some (.type "tuple") := by decide +kernel
/-! heaps -/
theorem same_upd {H : Hp} {p : Addr} {o : HO} (h : H p = none) : Same H (upd H p o) := fun b x e => by
  rw [upd_ne (ne_of_none e h)]
  exact e
theorem _root_.L2.Same.tup {K : PySem.W.Frag} {H H' : Hp} {a : Addr} {xs : List V} (e : Same H H') (h : SqT K H a xs) : SqT K H' a xs := by
  rcases h with (h | ⟨o, h⟩) | h
  · exact .inl (.inl (e _ _ h))
  · exact .inl (.inr ⟨o, e _ _ h⟩)
  · exact .inr h
theorem sqT_new {K : PySem.W.Frag} {H : Hp} {a : Addr} {xs : List V} (h : H a = some (.tup xs)) : SqT K H a xs := .inl (.inl h)
theorem sqL_new {K : PySem.W.Frag} {H : Hp} {a : Addr} {xs : List V} (h : H a = some (.lst xs)) : SqL K H a xs := .inl (.inl h)
theorem vL_get {B : List Nat} {i : Nat} {x : V} (h : (vL B)[i]? = some x) : ∃ b, B[i]? = some b ∧ x = vN b := by
  rw [List.getElem?_map] at h
  cases e : B[i]? with
  | none => rw [e] at h; cases h
  | some b => rw [e] at h; exact ⟨b, rfl, (Option.some.inj h).symm⟩
theorem vL_length (B : List Nat) : (vL B).length = B.length := by rw [List.length_map]
theorem take_succ {α : Type} {l : List α} {i : Nat} {x : α} (h : l[i]? = some x) : l.take (i + 1) = l.take i ++ [x] := by
  rw [List.take_add_one, h]
  rfl
/-! comprehensions -/
/-- what holds but at D -/
def But (D : Addr) (H H' : Hp) : Prop := ∀ c o, H c = some o → c ≠ D → H' c = some o
theorem _root_.L2.Same.but {D : Addr} {H H' : Hp} (h : Same H H') : But D H H' := fun c o e _ => h c o e
/-- the comprehension's list so far -/
def LcInv {ι : Type} (l : List ι) (p : ι → Bool) (ρ : ι → V → Hp → Prop) (H1 : Hp) (D : Addr) (i : Nat) (H : Hp) : Prop :=
  Same H1 H ∧ ∃ ys, H D = some (.lst ys) ∧ ys.length ≤ i ∧ Paired (fun b y => ρ b y H) ((l.take i).filter p) ys
theorem Paired.mono {α β : Type} {F G : α → β → Prop} {l : List α} {m : List β} (h : Paired F l m) (f : ∀ a b, F a b → G a b) : Paired G l m := Paired.mapP h f
theorem Paired.eq_map {α β : Type} {f : α → β} : ∀ {l : List α} {m : List β}, Paired (fun a b => b = f a) l m → m = l.map f
  | _, _, .nil => rfl
  | _, _, .cons h t => by rw [List.map_cons, h, Paired.eq_map t]
section
variable {ι : Type} {enc : ι → V} {l : List ι} {p : ι → Bool} {ρ : ι → V → Hp → Prop} {K : PySem.W.Frag} {a : Addr} {g : TG} {tt : TT} {te : TE} {vs : List Nat} {σ : L2.St} {H1 : Hp} {D : Addr} {Qd : Hp → Prop}
theorem lcInv_start (hD : H1 D = none) : LcInv l p ρ H1 D 0 (upd H1 D (.lst [])) :=
  ⟨same_upd hD, [], upd_same, Nat.le_refl _, by rw [List.take_zero]; exact .nil⟩
theorem lcInv_no {i : Nat} {b : ι} {H H3 : Hp} (hi : l[i]? = some b) (h : LcInv l p ρ H1 D i H) (hst : ∀ b y H H', ρ b y H → But D H H' → ρ b y H') (hp : p b = false) (s : Same H H3) : LcInv l p ρ H1 D (i + 1) H3 := by
  obtain ⟨h1, ys, h2, h3, h4⟩ := h
  refine ⟨h1.trans s, ys, s _ _ h2, by omega, ?_⟩
  rw [take_succ hi, List.filter_append]
  have : [b].filter p = [] := by simp [hp]
  rw [this, List.append_nil]
  exact Paired.mono h4 fun b y r => hst b y H H3 r s.but
theorem lcInv_yes {i : Nat} {b : ι} {y : V} {H H4 : Hp} (hD : H1 D = none) (hlen : l.length < sizeLine) (hi : l[i]? = some b) (h : LcInv l p ρ H1 D i H) (hst : ∀ b y H H', ρ b y H → But D H H' → ρ b y H') (hp : p b = true) (s : Same H H4) (r : ρ b y H4) :
    ∃ acc, H4 D = some (.lst acc) ∧ acc.length < sizeLine ∧ LcInv l p ρ H1 D (i + 1) (upd H4 D (.lst (acc ++ [y]))) := by
  obtain ⟨h1, ys, h2, h3, h4⟩ := h
  have hil := (List.getElem?_eq_some_iff.mp hi).1
  have bt : But D H4 (upd H4 D (.lst (ys ++ [y]))) := fun c o e ne => by rw [upd_ne ne]; exact e
  refine ⟨ys, s _ _ h2, by omega, fun c o e => ?_, ys ++ [y], upd_same, by rw [List.length_append, List.length_singleton]; omega, ?_⟩
  · have ne : c ≠ D := ne_of_none e hD
    exact bt c o (s _ _ (h1 _ _ e)) ne
  · rw [take_succ hi, List.filter_append]
    have : [b].filter p = [b] := by simp [hp]
    rw [this]
    exact Paired.snoc (Paired.mono h4 fun b y r => hst b y H4 _ (hst b y H H4 r s.but) bt) (hst b y H4 _ r bt)
/-- one turn, said for whatever follows -/
abbrev LcTurn (enc : ι → V) (l : List ι) (p : ι → Bool) (ρ : ι → V → Hp → Prop) (g : TG) (tt : TT) (te : TE) (vs : List Nat) (σ : L2.St) (H1 : Hp) (D : Addr) : Prop :=
  ∀ (b : ι) (H : Hp) (Qn : VK) (Qs : Hp → Prop), b ∈ l → Same H1 H → (∃ acc, H D = some (.lst acc)) → (p b = true → ∀ y H4, Same H H4 → ρ b y H4 → Qn y H4) → (p b = false → ∀ H3, Same H H3 → Qs H3) →
    g (enc b) (wipe σ vs) H fun σ2 H2 => wipe σ2 vs = wipe σ vs ∧ tt σ2 H2 fun c H3 => if c = true then te σ2 H3 Qn else Qs H3
theorem enc_get {i : Nat} {x : V} (h : (l.map enc)[i]? = some x) : ∃ b, l[i]? = some b ∧ x = enc b := by
  rw [List.getElem?_map] at h
  cases e : l[i]? with
  | none => rw [e] at h; cases h
  | some b => rw [e] at h; exact ⟨b, rfl, (Option.some.inj h).symm⟩
theorem lcInv_end {H : Hp} (h : LcInv l p ρ H1 D l.length H) (hd : ∀ H ys, Same H1 H → H D = some (.lst ys) → Paired (fun b y => ρ b y H) (l.filter p) ys → Qd H) : Qd H := by
  obtain ⟨h1, ys, h2, _, h4⟩ := h
  rw [List.take_length] at h4
  exact hd H ys h1 h2 h4
theorem lcGL (p : ι → Bool) (ρ : ι → V → Hp → Prop) (hD : H1 D = none) (hS : SqL K H1 a (l.map enc)) (hlen : l.length < sizeLine) (hst : ∀ b y H H', ρ b y H → But D H H' → ρ b y H')
    (turn : LcTurn enc l p ρ g tt te vs σ H1 D) (hd : ∀ H ys, Same H1 H → H D = some (.lst ys) → Paired (fun b y => ρ b y H) (l.filter p) ys → Qd H) :
    ∃ W : Nat → Nat → Hp → Prop, (∃ m, W 0 m (upd H1 D (.lst []))) ∧ ∀ i m H, W i m H →
      ((Itl K a).stop i H ∧ Qd H) ∨ ((Itl K a).go i H ∧ ∃ Nx : Hp → Prop, (∀ H', Nx H' → ∃ m', m' < m ∧ W (i + 1) m' H') ∧ ∀ x H', (Itl K a).yld i H x H' → g x (wipe σ vs) H' fun σ2 H2 => wipe σ2 vs = wipe σ vs ∧ tt σ2 H2 fun b H3 =>
        if b = true then te σ2 H3 fun y H4 => ∃ acc, H4 D = some (.lst acc) ∧ acc.length < sizeLine ∧ Nx (upd H4 D (.lst (acc ++ [y]))) else Nx H3) := by
  refine lc_list (xs := l.map enc) (LcInv l p ρ H1 D) (lcInv_start hD) (fun i H _ h => h.1.seq hS) (fun i x H hx h => ?_) fun H h => ?_
  · obtain ⟨b, hb, rfl⟩ := enc_get hx
    have h' := h
    obtain ⟨h1, ys, h2, h3, h4⟩ := h
    exact turn b H _ _ (List.mem_of_getElem? hb) h1 ⟨ys, h2⟩ (fun hp y H4 s r => lcInv_yes hD hlen hb h' hst hp s r) fun hp H3 s => lcInv_no hb h' hst hp s
  · rw [List.length_map] at h
    exact lcInv_end h hd
theorem lcGT (p : ι → Bool) (ρ : ι → V → Hp → Prop) (hD : H1 D = none) (hS : SqT K H1 a (l.map enc)) (hlen : l.length < sizeLine) (hst : ∀ b y H H', ρ b y H → But D H H' → ρ b y H')
    (turn : LcTurn enc l p ρ g tt te vs σ H1 D) (hd : ∀ H ys, Same H1 H → H D = some (.lst ys) → Paired (fun b y => ρ b y H) (l.filter p) ys → Qd H) :
    ∃ W : Nat → Nat → Hp → Prop, (∃ m, W 0 m (upd H1 D (.lst []))) ∧ ∀ i m H, W i m H →
      ((Itt K a).stop i H ∧ Qd H) ∨ ((Itt K a).go i H ∧ ∃ Nx : Hp → Prop, (∀ H', Nx H' → ∃ m', m' < m ∧ W (i + 1) m' H') ∧ ∀ x H', (Itt K a).yld i H x H' → g x (wipe σ vs) H' fun σ2 H2 => wipe σ2 vs = wipe σ vs ∧ tt σ2 H2 fun b H3 =>
        if b = true then te σ2 H3 fun y H4 => ∃ acc, H4 D = some (.lst acc) ∧ acc.length < sizeLine ∧ Nx (upd H4 D (.lst (acc ++ [y]))) else Nx H3) := by
  refine lc_tup (xs := l.map enc) (LcInv l p ρ H1 D) (lcInv_start hD) (fun i H _ h => h.1.tup hS) (fun i x H hx h => ?_) fun H h => ?_
  · obtain ⟨b, hb, rfl⟩ := enc_get hx
    have h' := h
    obtain ⟨h1, ys, h2, h3, h4⟩ := h
    exact turn b H _ _ (List.mem_of_getElem? hb) h1 ⟨ys, h2⟩ (fun hp y H4 s r => lcInv_yes hD hlen hb h' hst hp s r) fun hp H3 s => lcInv_no hb h' hst hp s
  · rw [List.length_map] at h
    exact lcInv_end h hd
end
section
variable {p : Nat → Bool} {ρ : Nat → V → Hp → Prop} {K : PySem.W.Frag} {a : Addr} {g : TG} {tt : TT} {te : TE} {vs : List Nat} {σ : L2.St} {H1 : Hp} {D : Addr} {Qd : Hp → Prop} {n : Nat}
theorem lcGR (p : Nat → Bool) (ρ : Nat → V → Hp → Prop) (hD : H1 D = none) (hlen : n < sizeLine) (hst : ∀ b y H H', ρ b y H → But D H H' → ρ b y H')
    (turn : LcTurn vN (List.range n) p ρ g tt te vs σ H1 D) (hd : ∀ H ys, Same H1 H → H D = some (.lst ys) → Paired (fun b y => ρ b y H) ((List.range n).filter p) ys → Qd H) :
    ∃ W : Nat → Nat → Hp → Prop, (∃ m, W 0 m (upd H1 D (.lst []))) ∧ ∀ i m H, W i m H →
      ((Itr 0 n).stop i H ∧ Qd H) ∨ ((Itr 0 n).go i H ∧ ∃ Nx : Hp → Prop, (∀ H', Nx H' → ∃ m', m' < m ∧ W (i + 1) m' H') ∧ ∀ x H', (Itr 0 n).yld i H x H' → g x (wipe σ vs) H' fun σ2 H2 => wipe σ2 vs = wipe σ vs ∧ tt σ2 H2 fun b H3 =>
        if b = true then te σ2 H3 fun y H4 => ∃ acc, H4 D = some (.lst acc) ∧ acc.length < sizeLine ∧ Nx (upd H4 D (.lst (acc ++ [y]))) else Nx H3) := by
  have hl : (List.range n).length < sizeLine := by rw [List.length_range]; exact hlen
  refine lc_range (LcInv (List.range n) p ρ H1 D) (lcInv_start hD) (fun i H hi h => ?_) fun H h => ?_
  · have hb : (List.range n)[i]? = some i := List.getElem?_range hi
    have h' := h
    obtain ⟨h1, ys, h2, h3, h4⟩ := h
    rw [Int.zero_add]
    exact turn i H _ _ (List.mem_of_getElem? hb) h1 ⟨ys, h2⟩ (fun hp y H4 s r => lcInv_yes hD hl hb h' hst hp s r) fun hp H3 s => lcInv_no hb h' hst hp s
  · have : LcInv (List.range n) p ρ H1 D (List.range n).length H := by rw [List.length_range]; exact h
    exact lcInv_end this hd
end
/-- where the element is a value whatever the heap -/
theorem pure_stays {ι : Type} {f : ι → V} {D : Addr} : ∀ (b : ι) (y : V) (H H' : Hp), (fun (b : ι) (y : V) (_ : Hp) => y = f b) b y H → But D H H' → (fun (b : ι) (y : V) (_ : Hp) => y = f b) b y H' := fun _ _ _ _ h _ => h
end Oc
set_option Elab.async false
set_option linter.all false
set_option maxRecDepth 100000
set_option maxHeartbeats 4000000
namespace Oc
open PySem PySem.Spec PyProof.Rows L2
abbrev iN (n : Nat) : Int := (n : Int)
theorem map_nat_int (l : List Nat) : (l.map iN).map V.int = vL l := by rw [List.map_map]; rfl
theorem ints_back {ns : List Int} {l : List Nat} (h : ns.Perm (l.map iN)) : ∃ m : List Nat, ns = m.map iN ∧ m.Perm l := by
  refine ⟨ns.map Int.toNat, ?_, ?_⟩
  · rw [List.map_map]
    have : ∀ z ∈ ns, (iN ∘ Int.toNat) z = id z := fun z hz => by
      obtain ⟨n, _, rfl⟩ := List.mem_map.mp (h.mem_iff.mp hz)
      rfl
    rw [List.map_congr_left this, List.map_id]
  · have := h.map Int.toNat
    rw [List.map_map] at this
    have e : ∀ n ∈ l, (Int.toNat ∘ iN) n = id n := fun n _ => rfl
    rw [List.map_congr_left e, List.map_id] at this
    exact this
theorem vL_append (a b : List Nat) : vL (a ++ b) = vL a ++ vL b := List.map_append
theorem vL_map {α : Type} (f : α → Nat) (l : List α) : vL (l.map f) = l.map fun x => vN (f x) := by rw [vL, List.map_map]; rfl
theorem small {n : Nat} (h : n ≤ 1000) : n < sizeLine := small1000 h
theorem small' {n : Nat} (h : n ≤ 1000) : n ≤ sizeLine := Nat.le_of_lt (small1000 h)
section
variable {P : Program} {w : World} {K : PySem.W.Frag} {mg : Str → Option Value} {base : Heap}
/-! left_of -/
abbrev N_left_of : List Str := ["basis", "word", "one"]
theorem sc_left_of : FnScope N_left_of ["basis", "word"] (defScope s_left_of) := ⟨rfl, rfl, rfl, by decide +kernel, rfl, by decide +kernel, by decide +kernel⟩
def sp_left_of (K : PySem.W.Frag) : Sp := fun vs H Q _ => ∃ (a : Addr) (B : List Nat) (w : Nat), vs = [.ref a, vN w] ∧ SqT K H a (vL B) ∧ Q (vN (Ow.leftOf B w)) H
theorem leftOf_snoc (B : List Nat) (w b : Nat) : Ow.leftOf (B ++ [b]) w = min (Ow.leftOf B w) (Ow.leftOf B w ^^^ b) := by
  unfold Ow.leftOf
  rw [List.foldl_append]
  rfl
theorem cal_left_of (T : Tx K mg) : Cal P w K mg base 1 "left_of" (sp_left_of K) := by
  refine calD (ps := ["basis", "word"]) T.f_left_of (fun _ _ _ _ _ _ us hl => match us, hl with | [_, _], _ => rfl) sc_left_of (fun vs H Q E h => ?_) (fun cdv A outer s H vs Q E hr h => ?_)
  · obtain ⟨a, B, w, rfl, _⟩ := h
    rfl
  · obtain ⟨a, B, w, rfl, hB, q⟩ := h
    refine ⟨_, (pss_cons (ps_for PassesOwn.never rfl (pi_tup (pv 0)) (pg_name (i := 2) sc_left_of.nd rfl (.inl rfl))
        (pss_one (ps_set (i := 1) sc_left_of.nd rfl (.inl rfl) (pe_callB (call_min2 rfl) (by rfl) T.b_min bt_min (pa_cons (pv 1) (pa_cons (pe_op op_xor (pv 1) (pv 2)) pa_nil))))))
      (pss_one (ps_ret (pv 1)))), ?_⟩
    refine ⟨_, rfl, a, rfl, ⟨_, hB⟩, for_tup (K := K) (a := a) (xs := vL B) (fun i σ H' => H' = H ∧ ∃ y, σ = [some (.ref a), some (vN (Ow.leftOf (B.take i) w)), y]) ⟨rfl, none, rfl⟩ (fun i σ H' _ ⟨e, _⟩ => by rw [e]; exact hB) ?_ ?_⟩
    · rintro i x σ H' hx ⟨rfl, y, rfl⟩
      obtain ⟨b, hb, rfl⟩ := vL_get hx
      refine ⟨_, rfl, _, rfl, _, rfl, _, _, rfl, rfl, _, _, rfl, ?_⟩
      rw [bXor, min2, take_succ hb, leftOf_snoc]
      exact ⟨rfl, _, rfl⟩
    · rintro σ H' ⟨rfl, y, rfl⟩
      refine ⟨_, rfl, ?_⟩
      rw [vL_length, List.take_length]
      exact q
/-! with_word -/
abbrev N_with_word : List Str := ["basis", "word", "left", "one"]
theorem sc_with_word : FnScope N_with_word ["basis", "word"] (defScope s_with_word) := ⟨rfl, rfl, rfl, by decide +kernel, rfl, by decide +kernel, by decide +kernel⟩
def sp_with_word (K : PySem.W.Frag) : Sp := fun vs H Q _ => ∃ (a : Addr) (B : List Nat) (w : Nat), vs = [.ref a, vN w] ∧ SqT K H a (vL B) ∧ B.length ≤ 100 ∧
  ∀ (H' : Hp) (p : Addr), Same H H' → SqT K H' p (vL (Ow.withWord B w)) → Q (.ref p) H'
theorem cal_with_word (T : Tx K mg) : Cal P w K mg base 2 "with_word" (sp_with_word K) := by
  refine calD (ps := ["basis", "word"]) T.f_with_word (fun _ _ _ _ _ _ us hl => match us, hl with | [_, _], _ => rfl) sc_with_word (fun vs H Q E h => ?_) (fun cdv A outer s H vs Q E hr h => ?_)
  · obtain ⟨a, B, w, rfl, _⟩ := h
    rfl
  · obtain ⟨a, B, w, rfl, hB, hlen, q⟩ := h
    refine ⟨_, (pss_cons (ps_set (i := 2) sc_with_word.nd rfl (.inr rfl) (pe_c (cal_left_of T) hr (by decide) (by rfl) (pa_cons (pv 0) (pa_cons (pv 1) pa_nil))))
      (pss_cons (ps_if (pt_cmpR op_eq (pv 2) pe_int (nomark _))
        (pss_one (ps_ret (pv 0)))
        pss_nil)
      (pss_one (ps_ret (pe_callTy call_tuple_of (by rfl) T.b_tuple bt_tuple (pa_cons (pe_callBK (cr_sortedRev (b := true)) (by rfl) T.b_sorted bt_sorted (pa_cons (pe_op op_cat (pe_lc (own := [("one", 3)]) (by rfl) sc_with_word.nd (pi_tup (pv 0)) (blkOk_by (N := N_with_word) (sc := defScope s_with_word) (by decide +kernel)) (fun _ _ _ _ _ => (pg_name (i := 3) sc_with_word.nd rfl (.inl rfl))) (fun _ _ _ _ _ => pts_nil) (fun _ _ _ _ _ => (pe_callB (call_min2 rfl) (by rfl) T.b_min bt_min (pa_cons (pv 3) (pa_cons (pe_op op_xor (pv 3) (pv 2)) pa_nil))))) (pe_lst (pa_cons (pv 2) pa_nil))) pa_nil) (pk_cons pe_bl pk_nil)) pa_nil)))))), ?_⟩
    -- left = left_of(basis, word)
    refine ⟨_, rfl, _, rfl, a, B, w, rfl, hB, ?_⟩
    -- if left == 0
    refine ⟨_, rfl, rfl, _, rfl, ite2 (fun e => ?_) fun e => ?_⟩
    · have e0 : Ow.leftOf B w = 0 := by
        have := V.int.inj (of_decide_eq_true e)
        omega
      refine ⟨_, rfl, q H a (Same.refl H) ?_⟩
      unfold Ow.withWord
      rw [if_pos e0]
      exact hB
    · have e0 : Ow.leftOf B w ≠ 0 := fun z => e (by rw [z]; exact decide_eq_true rfl)
      refine ⟨_, rfl, a, rfl, ⟨_, hB⟩, fun D hD => lcGT (fun _ => true) (fun b y _ => y = vN (min b (b ^^^ Ow.leftOf B w))) hD hB (small (by omega)) pure_stays ?_ ?_⟩
      · intro b H2 Qn Qs hb s _ k1 k2
        refine ⟨rfl, _, rfl, _, rfl, _, rfl, _, _, rfl, rfl, _, _, rfl, ?_⟩
        rw [bXor, min2]
        exact k1 rfl _ _ (Same.refl _) rfl
      · intro H2 ys s1 hy pr
        have ey := Paired.eq_map pr
        rw [List.filter_eq_self.mpr fun _ _ => rfl] at ey
        subst ey
        refine ⟨_, rfl, (by decide : 1 ≤ sizeLine), fun l2 hl2 => ?_⟩
        have n2 : D ≠ l2 := ne_of_none hy hl2
        refine ⟨_, _, _, _, rfl, rfl, (by rw [upd_ne n2]; exact hy), upd_same, small' (by simp; omega), fun l3 hl3 => ?_⟩
        have es : ((B.map fun b => vN (min b (b ^^^ Ow.leftOf B w))) ++ [vN (Ow.leftOf B w)]) = ((((B.map fun b => min b (b ^^^ Ow.leftOf B w)) ++ [Ow.leftOf B w]).map iN).map V.int) := by
          rw [map_nat_int, vL, List.map_append, List.map_map]
          rfl
        refine ⟨_, _, rfl, rfl, sqL_new (by rw [upd_same, es]), fun ns l4 hp ho hl4 => ?_⟩
        obtain ⟨m, rfl, hm⟩ := ints_back hp
        have so : m.Pairwise fun a b => b ≤ a := by
          have ho' : (m.map iN).Pairwise (· ≥ ·) := ho
          rw [List.pairwise_map] at ho'
          exact ho'.imp fun h => by have : (_ : Int) ≥ _ := h; unfold iN at this; omega
        refine ⟨_, _, rfl, .inl ⟨sqL_new upd_same, fun l5 hl5 => ?_⟩⟩
        refine q _ _ ?_ (sqT_new ?_)
        · exact ((((s1.trans (same_upd hl2)).trans (same_upd hl3)).trans (same_upd hl4)).trans (same_upd hl5))
        · rw [upd_same, map_nat_int]
          unfold Ow.withWord
          rw [if_neg e0, ← Ow.downN_of hm so]
/-! plain_basis, of a list -/
abbrev N_plain_basis : List Str := ["words", "found", "word"]
theorem sc_plain_basis : FnScope N_plain_basis ["words"] (defScope s_plain_basis) := ⟨rfl, rfl, rfl, by decide +kernel, rfl, by decide +kernel, by decide +kernel⟩
def sp_plain_basis (K : PySem.W.Frag) : Sp := fun vs H Q _ => ∃ (a : Addr) (ws : List Nat), vs = [.ref a] ∧ SqL K H a (vL ws) ∧ ws.length ≤ 100 ∧
  ∀ (H' : Hp) (p : Addr), Same H H' → SqT K H' p (vL (Ow.plainBasis ws)) → Q (.ref p) H'
theorem cal_plain_basis (T : Tx K mg) : Cal P w K mg base 3 "plain_basis" (sp_plain_basis K) := by
  refine calD (ps := ["words"]) T.f_plain_basis (fun _ _ _ _ _ _ us hl => match us, hl with | [_], _ => rfl) sc_plain_basis (fun vs H Q E h => ?_) (fun cdv A outer s H vs Q E hr h => ?_)
  · obtain ⟨a, ws, rfl, _⟩ := h
    rfl
  · obtain ⟨a, ws, rfl, hS, hlen, q⟩ := h
    refine ⟨_, (pss_cons (ps_set (i := 1) sc_plain_basis.nd rfl (.inl rfl) (pe_tup pa_nil))
      (pss_cons (ps_for PassesOwn.never rfl (pi_list (pv 0)) (pg_name (i := 2) sc_plain_basis.nd rfl (.inl rfl))
        (pss_one (ps_set (i := 1) sc_plain_basis.nd rfl (.inl rfl) (pe_c (cal_with_word T) hr (by decide) (by rfl) (pa_cons (pv 1) (pa_cons (pv 2) pa_nil))))))
      (pss_one (ps_ret (pv 1))))), ?_⟩
    refine ⟨Nat.zero_le _, fun l hl => ?_⟩
    refine ⟨_, rfl, a, rfl, ⟨_, (same_upd hl).seq hS⟩, for_list (K := K) (a := a) (xs := vL ws) (fun i σ H' => Same H H' ∧ ∃ p y, σ = [some (.ref a), some (.ref p), y] ∧ SqT K H' p (vL (Ow.plainBasis (ws.take i)))) ?_ (fun i σ H' _ ⟨e, _⟩ => e.seq hS) ?_ ?_⟩
    · exact ⟨same_upd hl, l, none, rfl, sqT_new upd_same⟩
    · rintro i x σ H' hx ⟨s1, p, y, rfl, hp⟩
      obtain ⟨b, hb, rfl⟩ := vL_get hx
      have hl2 : (Ow.plainBasis (ws.take i)).length ≤ 100 := by
        have := Ow.plainBasis_length_le (ws.take i)
        rw [List.length_take] at this
        omega
      refine ⟨_, rfl, _, rfl, p, _, b, rfl, hp, hl2, fun H2 p2 s2 hp2 => ?_⟩
      refine ⟨s1.trans s2, p2, _, rfl, ?_⟩
      rw [take_succ hb, Ow.plainBasis_snoc]
      exact hp2
    · rintro σ H' ⟨s1, p, y, rfl, hp⟩
      rw [vL_length, List.take_length] at hp
      exact ⟨_, rfl, q H' p s1 hp⟩
/-! all_words, of a list or tuple -/
abbrev N_all_words : List Str := ["basis", "found", "one", "word"]
theorem sc_all_words : FnScope N_all_words ["basis"] (defScope s_all_words) := ⟨rfl, rfl, rfl, by decide +kernel, rfl, by decide +kernel, by decide +kernel⟩
def SeqA (K : PySem.W.Frag) (H : Hp) (a : Addr) (xs : List V) : Prop := SqL K H a xs ∨ SqT K H a xs
def sp_all_words (K : PySem.W.Frag) : Sp := fun vs H Q _ => ∃ (a : Addr) (B : List Nat), vs = [.ref a] ∧ SeqA K H a (vL B) ∧ B.length ≤ 8 ∧
  ∀ (H' : Hp) (p : Addr), Same H H' → H' p = some (.lst (vL (Ow.span B))) → Q (.ref p) H'
theorem span_rev (B : List Nat) (i : Nat) (b : Nat) (h : B.reverse[i]? = some b) : Ow.span (B.reverse.take (i + 1)).reverse = Ow.span (B.reverse.take i).reverse ++ (Ow.span (B.reverse.take i).reverse).map fun w => w ^^^ b := by
  rw [take_succ h, List.reverse_append]
  rfl
theorem cal_all_words (T : Tx K mg) : Cal P w K mg base 1 "all_words" (sp_all_words K) := by
  refine calD (ps := ["basis"]) T.f_all_words (fun _ _ _ _ _ _ us hl => match us, hl with | [_], _ => rfl) sc_all_words (fun vs H Q E h => ?_) (fun cdv A outer s H vs Q E hr h => ?_)
  · obtain ⟨a, ws, rfl, _⟩ := h
    rfl
  · obtain ⟨a, B, rfl, hS, hlen, q⟩ := h
    refine ⟨_, (pss_cons (ps_set (i := 1) sc_all_words.nd rfl (.inl rfl) (pe_lst (pa_cons pe_int pa_nil)))
      (pss_cons (ps_for PassesOwn.never rfl (pi_seq (pe_revA (pv 0))) (pg_name (i := 2) sc_all_words.nd rfl (.inr rfl))
        (pss_one (ps_set (i := 1) sc_all_words.nd rfl (.inl rfl) (pe_op op_cat (pv 1) (pe_lc (own := [("word", 3)]) (by rfl) sc_all_words.nd (pi_list (pv 1)) (blkOk_by (N := N_all_words) (sc := defScope s_all_words) (by decide +kernel)) (fun _ _ _ _ _ => (pg_name (i := 3) sc_all_words.nd rfl (.inl rfl))) (fun _ _ _ _ _ => pts_nil) (fun _ _ _ _ _ => (pe_op op_xor (pv 3) (pv 2))))))))
      (pss_one (ps_ret (pv 1))))), ?_⟩
    refine ⟨by decide, fun l hl => ?_⟩
    rcases hS with hS | hS
    · refine ⟨_, rfl, a, _, rfl, .inl ⟨(same_upd hl).seq hS, fun r hr2 => ?_⟩⟩
      have er : (upd (upd H l (.lst [.int 0])) r (.lst (vL B).reverse)) r = some (.lst (vL B.reverse)) := by rw [upd_same, vL, vL, List.map_reverse]
      have s0 : Same H (upd (upd H l (.lst [.int 0])) r (.lst (vL B).reverse)) := (same_upd hl).trans (same_upd hr2)
      refine ⟨r, rfl, .inl ⟨⟨_, sqL_new er⟩, for_list (K := K) (a := r) (xs := vL B.reverse) (fun i σ H' => Same H H' ∧ H' r = some (.lst (vL B.reverse)) ∧ ∃ p y z, σ = [some (.ref a), some (.ref p), y, z] ∧ H' p = some (.lst (vL (Ow.span (B.reverse.take i).reverse)))) ?_ (fun i σ H' _ ⟨_, e, _⟩ => sqL_new e) ?_ ?_⟩⟩
      · exact ⟨s0, er, l, none, none, rfl, by rw [upd_ne (ne_of_none upd_same hr2), upd_same]; rfl⟩
      · rintro i x σ H' hx ⟨s1, e1, p, y, z, rfl, hp⟩
        obtain ⟨b, hb, rfl⟩ := vL_get hx
        have hil : i < B.length := by have := (List.getElem?_eq_some_iff.mp hb).1; simpa using this
        have hsp : (Ow.span (B.reverse.take i).reverse).length ≤ 256 := by
          rw [Ow.length_span, List.length_reverse, List.length_take, List.length_reverse]
          exact Nat.le_trans (Nat.pow_le_pow_right (by decide) (by omega : min i B.length ≤ 8)) (by decide)
        refine ⟨_, rfl, _, rfl, p, rfl, ⟨_, sqL_new hp⟩, fun D hD => lcGL (fun _ => true) (fun w y _ => y = vN (w ^^^ b)) hD (sqL_new hp) (small (by omega)) pure_stays ?_ ?_⟩
        · intro w H2 Qn Qs hw s _ k1 k2
          refine ⟨rfl, _, rfl, _, rfl, _, _, rfl, rfl, ?_⟩
          exact k1 rfl _ _ (Same.refl _) (congrArg V.int (bXor w b))
        · intro H2 ys s2 hy pr
          have ey := Paired.eq_map pr
          rw [List.filter_eq_self.mpr fun _ _ => rfl] at ey
          subst ey
          refine ⟨p, D, _, _, rfl, rfl, s2 _ _ hp, hy, small' (by simp; omega), fun q2 hq2 => ?_⟩
          refine ⟨s1.trans (s2.trans (same_upd hq2)), ?_, q2, _, _, rfl, ?_⟩
          · exact (same_upd hq2) _ _ (s2 _ _ e1)
          · rw [upd_same, span_rev B i b hb, vL_append, vL_map]
      · rintro σ H' ⟨s1, e1, p, y, z, rfl, hp⟩
        rw [vL_length, List.take_length, List.reverse_reverse] at hp
        exact ⟨_, rfl, q H' p s1 hp⟩
    · refine ⟨_, rfl, a, _, rfl, .inr ⟨(same_upd hl).tup hS, fun r hr2 => ?_⟩⟩
      have er : (upd (upd H l (.lst [.int 0])) r (.tup (vL B).reverse)) r = some (.tup (vL B.reverse)) := by rw [upd_same, vL, vL, List.map_reverse]
      have s0 : Same H (upd (upd H l (.lst [.int 0])) r (.tup (vL B).reverse)) := (same_upd hl).trans (same_upd hr2)
      refine ⟨r, rfl, .inr ⟨⟨_, sqT_new er⟩, for_tup (K := K) (a := r) (xs := vL B.reverse) (fun i σ H' => Same H H' ∧ H' r = some (.tup (vL B.reverse)) ∧ ∃ p y z, σ = [some (.ref a), some (.ref p), y, z] ∧ H' p = some (.lst (vL (Ow.span (B.reverse.take i).reverse)))) ?_ (fun i σ H' _ ⟨_, e, _⟩ => sqT_new e) ?_ ?_⟩⟩
      · exact ⟨s0, er, l, none, none, rfl, by rw [upd_ne (ne_of_none upd_same hr2), upd_same]; rfl⟩
      · rintro i x σ H' hx ⟨s1, e1, p, y, z, rfl, hp⟩
        obtain ⟨b, hb, rfl⟩ := vL_get hx
        have hil : i < B.length := by have := (List.getElem?_eq_some_iff.mp hb).1; simpa using this
        have hsp : (Ow.span (B.reverse.take i).reverse).length ≤ 256 := by
          rw [Ow.length_span, List.length_reverse, List.length_take, List.length_reverse]
          exact Nat.le_trans (Nat.pow_le_pow_right (by decide) (by omega : min i B.length ≤ 8)) (by decide)
        refine ⟨_, rfl, _, rfl, p, rfl, ⟨_, sqL_new hp⟩, fun D hD => lcGL (fun _ => true) (fun w y _ => y = vN (w ^^^ b)) hD (sqL_new hp) (small (by omega)) pure_stays ?_ ?_⟩
        · intro w H2 Qn Qs hw s _ k1 k2
          refine ⟨rfl, _, rfl, _, rfl, _, _, rfl, rfl, ?_⟩
          exact k1 rfl _ _ (Same.refl _) (congrArg V.int (bXor w b))
        · intro H2 ys s2 hy pr
          have ey := Paired.eq_map pr
          rw [List.filter_eq_self.mpr fun _ _ => rfl] at ey
          subst ey
          refine ⟨p, D, _, _, rfl, rfl, s2 _ _ hp, hy, small' (by simp; omega), fun q2 hq2 => ?_⟩
          refine ⟨s1.trans (s2.trans (same_upd hq2)), ?_, q2, _, _, rfl, ?_⟩
          · exact (same_upd hq2) _ _ (s2 _ _ e1)
          · rw [upd_same, span_rev B i b hb, vL_append, vL_map]
      · rintro σ H' ⟨s1, e1, p, y, z, rfl, hp⟩
        rw [vL_length, List.take_length, List.reverse_reverse] at hp
        exact ⟨_, rfl, q H' p s1 hp⟩
end
end Oc
set_option Elab.async false
set_option linter.all false
set_option maxRecDepth 100000
set_option maxHeartbeats 4000000
namespace Oc
open PySem PySem.Spec PyProof.Rows L2
abbrev toldF (n : Nat) (b : Addr) : List (Str × V) := [("told_places", vN n), ("told_basis", .ref b)]
abbrev roomF (n : Nat) (b : Addr) : List (Str × V) := [("own_places", vN n), ("own_basis", .ref b)]
/-- a Room of n places, its plain basis B, stands at p -/
def RoomAt (K : PySem.W.Frag) (H : Hp) (p : Addr) (n : Nat) (B : List Nat) : Prop := ∃ dx b, H p = some (.ins (CA K "Room") dx (roomF n b)) ∧ SqT K H b (vL B)
theorem RoomAt.same {K : PySem.W.Frag} {H H' : Hp} {p : Addr} {n : Nat} {B : List Nat} (h : RoomAt K H p n B) (s : Same H H') : RoomAt K H' p n B := by
  obtain ⟨dx, b, h1, h2⟩ := h
  exact ⟨dx, b, s _ _ h1, s.tup h2⟩
def ToldAt (K : PySem.W.Frag) (H : Hp) (p : Addr) (n : Nat) (B : List Nat) : Prop := ∃ dx b, H p = some (.ins (CA K "Told") dx (toldF n b)) ∧ SqT K H b (vL B)
theorem put1 (n : Nat) : putF "told_places" (vN n) [] = ([("told_places", vN n)] : List (Str × V)) := rfl
theorem ne1 : ¬ (("told_places" : Str) = "told_basis") := by decide +kernel
theorem ne2 : ¬ (("own_places" : Str) = "own_basis") := by decide +kernel
theorem put2 (n : Nat) (b : Addr) : putF "told_basis" (.ref b) (putF "told_places" (vN n) []) = toldF n b := by
  show (if ("told_places" : Str) = "told_basis" then _ else (("told_places" : Str), vN n) :: [(("told_basis" : Str), V.ref b)]) = toldF n b
  rw [if_neg ne1]
theorem put3 (n : Nat) (b : Addr) : putF "own_basis" (.ref b) (putF "own_places" (vN n) []) = roomF n b := by
  show (if ("own_places" : Str) = "own_basis" then _ else (("own_places" : Str), vN n) :: [(("own_basis" : Str), V.ref b)]) = roomF n b
  rw [if_neg ne2]
theorem lk1 (n : Nat) (b : Addr) : (toldF n b).lookup ("told_places" : Str) = some (vN n) := by rw [← put2, lookup_putF, if_neg ne1, lookup_putF, if_pos rfl]
theorem lk2 (n : Nat) (b : Addr) : (toldF n b).lookup ("told_basis" : Str) = some (.ref b) := by rw [← put2, lookup_putF, if_pos rfl]
theorem lk3 (n : Nat) (b : Addr) : (roomF n b).lookup ("own_places" : Str) = some (vN n) := by rw [← put3, lookup_putF, if_neg ne2, lookup_putF, if_pos rfl]
theorem lk4 (n : Nat) (b : Addr) : (roomF n b).lookup ("own_basis" : Str) = some (.ref b) := by rw [← put3, lookup_putF, if_pos rfl]
theorem bl_true {p : Prop} [Decidable p] {Q : VK} {H : Hp} (h : p) (q : Q (.bl true) H) : Q (.bl (decide p)) H := by
  rw [decide_eq_true h]
  exact q
theorem bl_false {p : Prop} [Decidable p] {Q : VK} {H : Hp} (h : ¬ p) (q : Q (.bl false) H) : Q (.bl (decide p)) H := by
  rw [decide_eq_false h]
  exact q
theorem no_ne {p : Prop} [Decidable p] (h : p) : ¬ ((!decide p) = true) := by
  rw [decide_eq_true h]
  decide
theorem InsTy.of {K : PySem.W.Frag} {H : Hp} {a C dx : Addr} {fs : List (Str × V)} (t : InsTy K C) (c : Cls K C) (e : H a = some (.ins C dx fs)) : TyX K H (.ref a) (.ref C) := .base (.ins e c t.ha t.hn t.htk t.hm)
theorem kit_same {K : PySem.W.Frag} (t : Value) (h : (t == t) = true) : PySem.W.kitOne K t t = some true := if_pos h
section
variable {P : Program} {w : World} {K : PySem.W.Frag} {mg : Str → Option Value} {base : Heap}
abbrev N_is_integer : List Str := ["value"]
theorem sc_is_integer : FnScope N_is_integer ["value"] (defScope s_is_integer) := ⟨rfl, rfl, rfl, by decide +kernel, rfl, by decide +kernel, by decide +kernel⟩
def sp_is_integer : Sp := fun vs H Q _ => ∃ (i : Int), vs = [.int i] ∧ Q (.bl true) H
theorem cal_is_integer (T : Tx K mg) : Cal P w K mg base 1 "is_integer" sp_is_integer := by
  refine calD (ps := ["value"]) T.f_is_integer (fun _ _ _ _ _ _ us hl => match us, hl with | [_], _ => rfl) sc_is_integer (fun vs H Q E h => ?_) (fun cdv A outer s H vs Q E hr h => ?_)
  · obtain ⟨i, rfl, _⟩ := h
    rfl
  · obtain ⟨i, rfl, q⟩ := h
    refine ⟨_, (pss_one (ps_ret (pe_and (pe_callB call_isi (by rfl) T.b_isinstance bt_isinstance (pa_cons (pv 0) (pa_cons (pe_bltn (v := .ty "int") (u := .type "int") rfl T.b_int (by decide +kernel) rfl) pa_nil))) (pe_one (pe_not (pe_callB call_isi (by rfl) T.b_isinstance bt_isinstance (pa_cons (pv 0) (pa_cons (pe_bltn (v := .ty "bool") (u := .type "bool") rfl T.b_bool (by decide +kernel) rfl) pa_nil)))))))), ?_⟩
    refine ⟨_, rfl, _, _, _, _, true, rfl, .ty "int", .base (.int i), kit_ty (by decide +kernel), _, rfl, ?_⟩
    exact ⟨_, rfl, _, _, _, _, false, rfl, .ty "bool", .base (.int i), kit_ty (by decide +kernel), _, rfl, q⟩
abbrev N_is_count : List Str := ["value"]
theorem sc_is_count : FnScope N_is_count ["value"] (defScope s_is_count) := ⟨rfl, rfl, rfl, by decide +kernel, rfl, by decide +kernel, by decide +kernel⟩
def sp_is_count : Sp := fun vs H Q _ => ∃ (n : Nat), vs = [vN n] ∧ Q (.bl true) H
theorem cal_is_count (T : Tx K mg) : Cal P w K mg base 2 "is_count" sp_is_count := by
  refine calD (ps := ["value"]) T.f_is_count (fun _ _ _ _ _ _ us hl => match us, hl with | [_], _ => rfl) sc_is_count (fun vs H Q E h => ?_) (fun cdv A outer s H vs Q E hr h => ?_)
  · obtain ⟨i, rfl, _⟩ := h
    rfl
  · obtain ⟨n, rfl, q⟩ := h
    refine ⟨_, (pss_one (ps_ret (pe_and (pe_c (cal_is_integer T) hr (by decide) (by rfl) (pa_cons (pv 0) pa_nil)) (pe_one (pe_cmpR op_ge (pv 0) pe_int (nomark _)))))), ?_⟩
    refine ⟨_, rfl, _, rfl, _, rfl, _, rfl, _, _, rfl, rfl, ?_⟩
    exact bl_true (Int.natCast_nonneg n) q
abbrev N_is_list : List Str := ["value"]
theorem sc_is_list : FnScope N_is_list ["value"] (defScope s_is_list) := ⟨rfl, rfl, rfl, by decide +kernel, rfl, by decide +kernel, by decide +kernel⟩
def sp_is_list : Sp := fun vs H Q _ => ∃ (a : Addr) (xs : List V), vs = [.ref a] ∧ H a = some (.lst xs) ∧ ∀ H', Same H H' → Q (.bl true) H'
theorem cal_is_list (T : Tx K mg) : Cal P w K mg base 1 "is_list" sp_is_list := by
  refine calD (ps := ["value"]) T.f_is_list (fun _ _ _ _ _ _ us hl => match us, hl with | [_], _ => rfl) sc_is_list (fun vs H Q E h => ?_) (fun cdv A outer s H vs Q E hr h => ?_)
  · obtain ⟨a, xs, rfl, _⟩ := h
    rfl
  · obtain ⟨a, xs, rfl, ha, q⟩ := h
    refine ⟨_, (pss_one (ps_ret (pe_callB call_isiT (by rfl) T.b_isinstance bt_isinstance (pa_cons (pv 0) (pa_cons (pe_tup (pa_cons (pe_bltn (v := .ty "list") (u := .type "list") rfl T.b_list (by decide +kernel) rfl) (pa_cons (pe_bltn (v := .ty "tuple") (u := .type "tuple") rfl T.b_tuple (by decide +kernel) rfl) pa_nil))) pa_nil))))), ?_⟩
    refine ⟨_, rfl, (by decide : 2 ≤ sizeLine), fun t ht => ?_⟩
    refine ⟨_, t, _, _, _, true, rfl, upd_same, .cons (.ty "list") (.cons (.ty "tuple") .nil), .base (.lst (by rw [upd_ne (ne_of_none ha ht)]; exact ha)), ?_, q _ (same_upd ht)⟩
    exact kitAny_cons (kit_ty (by decide +kernel) : PySem.W.kitOne K (.type "list") (.type "list") = some true) (fun e => by cases e) (fun _ => rfl)
abbrev N_is_places : List Str := ["value"]
theorem sc_is_places : FnScope N_is_places ["value"] (defScope s_is_places) := ⟨rfl, rfl, rfl, by decide +kernel, rfl, by decide +kernel, by decide +kernel⟩
def sp_is_places : Sp := fun vs H Q _ => ∃ (n : Nat), vs = [vN n] ∧ 1 ≤ n ∧ n ≤ 24 ∧ Q (.bl true) H
theorem cal_is_places (T : Tx K mg) : Cal P w K mg base 3 "is_places" sp_is_places := by
  refine calD (ps := ["value"]) T.f_is_places (fun _ _ _ _ _ _ us hl => match us, hl with | [_], _ => rfl) sc_is_places (fun vs H Q E h => ?_) (fun cdv A outer s H vs Q E hr h => ?_)
  · obtain ⟨i, rfl, _⟩ := h
    rfl
  · obtain ⟨n, rfl, h1, h2, q⟩ := h
    refine ⟨_, (pss_one (ps_ret (pe_and (pe_c (cal_is_count T) hr (by decide) (by rfl) (pa_cons (pv 0) pa_nil)) (pe_one (pe_chain op_le op_le pe_int (pv 0) (pe_ci rfl T.c_MOST_PLACES_basics)))))), ?_⟩
    refine ⟨_, rfl, _, rfl, _, rfl, _, rfl, _, _, rfl, rfl, _, rfl, ?_⟩
    rw [decide_eq_true (by omega : (1 : Int) ≤ (n : Int))]
    refine ⟨_, _, rfl, rfl, ?_⟩
    exact bl_true (p := (n : Int) ≤ 24) (by omega) q
abbrev N_want_places : List Str := ["value"]
theorem sc_want_places : FnScope N_want_places ["value"] (defScope s_want_places) := ⟨rfl, rfl, rfl, by decide +kernel, rfl, by decide +kernel, by decide +kernel⟩
def sp_want_places : Sp := fun vs H Q _ => ∃ (n : Nat), vs = [vN n] ∧ 1 ≤ n ∧ n ≤ 24 ∧ Q .non H
theorem cal_want_places (T : Tx K mg) : Cal P w K mg base 4 "want_places" sp_want_places := by
  refine calD (ps := ["value"]) T.f_want_places (fun _ _ _ _ _ _ us hl => match us, hl with | [_], _ => rfl) sc_want_places (fun vs H Q E h => ?_) (fun cdv A outer s H vs Q E hr h => ?_)
  · obtain ⟨i, rfl, _⟩ := h
    rfl
  · obtain ⟨n, rfl, h1, h2, q⟩ := h
    refine ⟨_, (pss_one (ps_if (pt_not (pt_val (pe_c (cal_is_places T) hr (by decide) (by rfl) (pa_cons (pv 0) pa_nil))))
        (pss_one ps_never)
        pss_nil)), ?_⟩
    exact ⟨_, rfl, n, rfl, h1, h2, _, rfl, q⟩
abbrev N_want_at_most : List Str := ["what", "limit", "number"]
theorem sc_want_at_most : FnScope N_want_at_most ["what", "limit", "number"] (defScope s_want_at_most) := ⟨rfl, rfl, rfl, by decide +kernel, rfl, by decide +kernel, by decide +kernel⟩
def sp_want_at_most : Sp := fun vs H Q _ => ∃ (x : V) (l n : Int), vs = [x, .int l, .int n] ∧ n ≤ l ∧ Q .non H
theorem cal_want_at_most (T : Tx K mg) : Cal P w K mg base 1 "want_at_most" sp_want_at_most := by
  refine calD (ps := ["what", "limit", "number"]) T.f_want_at_most (fun _ _ _ _ _ _ us hl => match us, hl with | [_, _, _], _ => rfl) sc_want_at_most (fun vs H Q E h => ?_) (fun cdv A outer s H vs Q E hr h => ?_)
  · obtain ⟨x, l, n, rfl, _⟩ := h
    rfl
  · obtain ⟨x, l, n, rfl, h1, q⟩ := h
    refine ⟨_, (pss_one (ps_if (pt_cmpR op_gt (pv 2) (pv 1) (nomark _))
        (pss_one ps_never)
        pss_nil)), ?_⟩
    refine ⟨_, rfl, _, rfl, _, _, rfl, rfl, _, rfl, ?_⟩
    rw [decide_eq_false (by omega : ¬ l < n)]
    exact q
/-! Told -/
abbrev N_Told_init : List Str := ["self", "places", "basis"]
theorem sc_Told_init : FnScope N_Told_init ["self", "places", "basis"] (defScope s_Told_init) := ⟨rfl, rfl, rfl, by decide +kernel, rfl, by decide +kernel, by decide +kernel⟩
def sp_Told (K : PySem.W.Frag) : Sp := fun vs H Q _ => ∃ (p dx b : Addr) (n : Nat), vs = [.ref p, vN n, .ref b] ∧ H p = some (.ins (CA K "Told") dx []) ∧
  ∀ H', (∀ c o, H c = some o → c ≠ p → H' c = some o) → H' p = some (.ins (CA K "Told") dx (toldF n b)) → Q .non H'
theorem mak_Told (T : Tx K mg) : Mak P w K mg base 1 "Told" (CA K "Told") (sp_Told K) := by
  refine makD (ps := ["self", "places", "basis"]) T.f_Told_init T.mk_Told T.g_Told (fun _ _ _ _ _ _ us hl => match us, hl with | [_, _, _], _ => rfl) sc_Told_init (fun vs H Q E h => ?_) (fun cdv A outer s H vs Q E hr h => ?_)
  · obtain ⟨p, dx, b, n, rfl, _⟩ := h
    rfl
  · obtain ⟨p, dx, b, n, rfl, hp, q⟩ := h
    refine ⟨_, (pss_cons (ps_fld (pv 0) (pv 1) rfl)
      (pss_one (ps_fld (pv 0) (pv 2) rfl))), ?_⟩
    refine ⟨_, rfl, _, rfl, p, _, dx, _, rfl, hp, T.cl_Told, T.no_told_places, (by decide : 0 < 1000), ?_⟩
    refine ⟨_, rfl, _, rfl, p, _, dx, _, rfl, upd_same, T.cl_Told, T.no_told_basis, (by show 1 < 1000; decide), ?_⟩
    refine q _ (fun c o e hc => by rw [upd_ne hc, upd_ne hc]; exact e) ?_
    rw [upd_same, put2]
/-! told_room -/
abbrev N_told_room : List Str := ["places", "words", "position", "word"]
theorem sc_told_room : FnScope N_told_room ["places", "words"] (defScope s_told_room) := ⟨rfl, rfl, rfl, by decide +kernel, rfl, by decide +kernel, by decide +kernel⟩
def sp_told_room (K : PySem.W.Frag) : Sp := fun vs H Q _ => (∃ (a : Addr) (n : Nat) (B : List Nat) (y : V), vs = [.ref a, y] ∧ ToldAt K H a n B ∧ Q (.ref a) H) ∨
  ∃ (a : Addr) (n : Nat) (ws : List Nat), vs = [vN n, .ref a] ∧ H a = some (.lst (vL ws)) ∧ 1 ≤ n ∧ n ≤ 24 ∧ ws.length ≤ 48 ∧ (∀ w ∈ ws, w < 2 ^ n) ∧ ∀ (H' : Hp) (p : Addr), Same H H' → ToldAt K H' p n (Ow.plainBasis ws) → Q (.ref p) H'
theorem cal_told_room (T : Tx K mg) : Cal P w K mg base 6 "told_room" (sp_told_room K) := by
  refine calD (ps := ["places", "words"]) T.f_told_room (fun _ _ _ _ _ _ us hl => match us, hl with | [_, _], _ => rfl) sc_told_room (fun vs H Q E h => ?_) (fun cdv A outer s H vs Q E hr h => ?_)
  · rcases h with ⟨a, n, B, y, rfl, _⟩ | ⟨a, n, ws, rfl, _⟩ <;> rfl
  · rcases h with ⟨a, n, B, y, rfl, ⟨dx, b, ha, hb⟩, q⟩ | ⟨a, n, ws, rfl, ha, h1, h24, h48, hw, q⟩
    · refine ⟨_, (pss_cons (ps_if (pt_val (pe_callB call_isi (by rfl) T.b_isinstance bt_isinstance (pa_cons (pv 0) (pa_cons (pe_glob (v := .ref (CA K "Told")) rfl T.g_Told rfl) pa_nil))))
        (pss_one (ps_ret (pv 0)))
        pss_nil)
      (pss_cons (ps_expr (pe_c (cal_want_places T) hr (by decide) (by rfl) (pa_cons (pv 0) pa_nil)))
      (pss_cons (ps_if (PW.pt (pw_or (pt_not (pt_val (pe_c (cal_is_list T) hr (by decide) (by rfl) (pa_cons (pv 1) pa_nil)))) (pw_or1 (pt_cmpR op_gt (pe_callB call_len_seq (by rfl) T.b_len bt_len (pa_cons (pv 1) pa_nil)) (pe_ci rfl T.c_MOST_WORDS) (nomark _)))))
        (pss_one ps_never)
        pss_nil)
      (pss_cons (ps_for PassesOwn.never rfl (pi_enum (by rfl) T.b_enumerate (pa_cons (pv 1) pa_nil)) (pg_tup rfl (pgs_cons (pg_name (i := 2) sc_told_room.nd rfl (.inl rfl)) (pgs_cons (pg_name (i := 3) sc_told_room.nd rfl (.inl rfl)) pgs_nil)))
        (pss_one (ps_if (PW.pt (pw_or (pt_not (pt_val (pe_c (cal_is_count T) hr (by decide) (by rfl) (pa_cons (pv 3) pa_nil)))) (pw_or1 (pt_cmpR op_ne (pe_op op_shr (pv 3) (pv 0)) pe_int (nomark _)))))
          (pss_one ps_never)
          pss_nil)))
      (pss_one (ps_ret (pe_mk (mak_Told T) hr (by decide) (by rfl) (pa_cons (pv 0) (pa_cons (pe_c (cal_plain_basis T) hr (by decide) (by rfl) (pa_cons (pv 1) pa_nil)) pa_nil))))))))), ?_⟩
      refine ⟨_, rfl, _, _, _, _, true, rfl, .own _, InsTy.of T.ti_Told T.cl_Told ha, kit_same _ (beq_self_eq_true _), _, rfl, ?_⟩
      exact ⟨_, rfl, q⟩
    · refine ⟨_, (pss_cons (ps_if (pt_val (pe_callB call_isi (by rfl) T.b_isinstance bt_isinstance (pa_cons (pv 0) (pa_cons (pe_glob (v := .ref (CA K "Told")) rfl T.g_Told rfl) pa_nil))))
        (pss_one (ps_ret (pv 0)))
        pss_nil)
      (pss_cons (ps_expr (pe_c (cal_want_places T) hr (by decide) (by rfl) (pa_cons (pv 0) pa_nil)))
      (pss_cons (ps_if (PW.pt (pw_or (pt_not (pt_val (pe_c (cal_is_list T) hr (by decide) (by rfl) (pa_cons (pv 1) pa_nil)))) (pw_or1 (pt_cmpR op_gt (pe_callB call_len_seq (by rfl) T.b_len bt_len (pa_cons (pv 1) pa_nil)) (pe_ci rfl T.c_MOST_WORDS) (nomark _)))))
        (pss_one ps_never)
        pss_nil)
      (pss_cons (ps_for PassesOwn.never rfl (pi_enum (by rfl) T.b_enumerate (pa_cons (pv 1) pa_nil)) (pg_tup rfl (pgs_cons (pg_name (i := 2) sc_told_room.nd rfl (.inl rfl)) (pgs_cons (pg_name (i := 3) sc_told_room.nd rfl (.inl rfl)) pgs_nil)))
        (pss_one (ps_if (PW.pt (pw_or (pt_not (pt_val (pe_c (cal_is_count T) hr (by decide) (by rfl) (pa_cons (pv 3) pa_nil)))) (pw_or1 (pt_cmpR op_ne (pe_op op_shr (pv 3) (pv 0)) pe_int (nomark _)))))
          (pss_one ps_never)
          pss_nil)))
      (pss_one (ps_ret (pe_mk (mak_Told T) hr (by decide) (by rfl) (pa_cons (pv 0) (pa_cons (pe_c (cal_plain_basis T) hr (by decide) (by rfl) (pa_cons (pv 1) pa_nil)) pa_nil))))))))), ?_⟩
      refine ⟨_, rfl, _, _, _, _, false, rfl, .own _, .base (.int _), T.is_int_Told, _, rfl, ?_⟩
      refine ⟨_, rfl, n, rfl, h1, h24, ?_⟩
      refine ⟨_, rfl, a, _, rfl, ha, fun H1 s1 => ⟨_, rfl, ?_⟩⟩
      refine ⟨_, rfl, a, _, rfl, .inl (sqL_new (s1 _ _ ha)), _, _, rfl, rfl, _, rfl, ?_⟩
      rw [decide_eq_false (by rw [vL_length]; omega : ¬ (48 : Int) < ((vL ws).length : Int))]
      have hS1 : SqL K H1 a (vL ws) := sqL_new (s1 _ _ ha)
      refine ⟨_, rfl, a, _, rfl, hS1, ?_⟩
      refine ⟨fun i m σ H2 => ∃ y2 y3, σ = [some (vN n), some (.ref a), y2, y3] ∧ i + m = ws.length ∧ Same H1 H2, ⟨ws.length, none, none, rfl, by omega, Same.refl _⟩, fun i m σ H2 hW => ?_⟩
      obtain ⟨y2, y3, rfl, em, s2⟩ := hW
      by_cases hi : i < ws.length
      · have gi : (vL ws)[i]? = some (vN ws[i]) := by rw [List.getElem?_map, List.getElem?_eq_getElem hi]; rfl
        refine .inr ⟨⟨_, _, s2.seq hS1, gi⟩, fun σ' H' => ∃ y2 y3, σ' = [some (vN n), some (.ref a), y2, y3] ∧ Same H1 H', fun σ' H' hN => ?_, fun v H' hy => ?_⟩
        · obtain ⟨z2, z3, e, s3⟩ := hN
          exact ⟨m - 1, by omega, z2, z3, e, by omega, s3⟩
        · obtain ⟨t, x, rfl, ht, rfl, fx⟩ := hy
          have ex : x = vN ws[i] := Option.some.inj ((fx _ (s2.seq hS1)).symm.trans gi)
          subst ex
          refine ⟨t, _, rfl, sqT_new upd_same, rfl, _, _, rfl, _, _, rfl, rfl, ?_⟩
          refine ⟨_, rfl, _, rfl, _, rfl, ?_⟩
          refine ⟨_, rfl, _, rfl, _, _, rfl, rfl, Int.natCast_nonneg n, rfl, _, rfl, ?_⟩
          have hz : ws[i] >>> n = 0 := by
            rw [Nat.shiftRight_eq_div_pow, Nat.div_eq_zero_iff]
            exact .inr (hw _ (List.getElem_mem hi))
          have hz2 : V.int ((ws[i] : Int) / 2 ^ ((n : Nat) : Int).toNat) = V.int 0 := by rw [shr, hz]; rfl
          exact ite2 (fun e => absurd e (no_ne hz2)) fun _ => ⟨_, _, rfl, s2.trans (same_upd ht)⟩
      · refine .inl ⟨⟨_, s2.seq hS1, by rw [vL_length]; omega⟩, ?_⟩
        refine ⟨_, rfl, _, rfl, a, ws, rfl, s2.seq hS1, by omega, fun H3 p s3 hp => ?_⟩
        refine fun x dx hx hdx ne => ⟨x, dx, p, n, rfl, upd_same, fun H4 k4 e4 => ⟨rfl, ?_⟩⟩
        have s4 : Same H3 H4 := Same.made hx hdx k4
        exact q H4 x (((s1.trans s2).trans s3).trans s4) ⟨dx, p, e4, s4.tup hp⟩
/-! Room -/
abbrev N_Room_init : List Str := ["self", "places", "words", "told"]
theorem sc_Room_init : FnScope N_Room_init ["self", "places", "words"] (defScope s_Room_init) := ⟨rfl, rfl, rfl, by decide +kernel, rfl, by decide +kernel, by decide +kernel⟩
def sp_Room (K : PySem.W.Frag) : Sp := fun vs H Q _ => ∃ (p dx : Addr), H p = some (.ins (CA K "Room") dx []) ∧
  ((∃ (a : Addr) (n : Nat) (B : List Nat) (y : V), vs = [.ref p, .ref a, y] ∧ ToldAt K H a n B ∧
    ∀ H' b, SqT K H' b (vL B) → (∀ c o, H c = some o → c ≠ p → H' c = some o) → H' p = some (.ins (CA K "Room") dx (roomF n b)) → Q .non H') ∨
  ∃ (a : Addr) (n : Nat) (ws : List Nat), vs = [.ref p, vN n, .ref a] ∧ H a = some (.lst (vL ws)) ∧ 1 ≤ n ∧ n ≤ 24 ∧ ws.length ≤ 48 ∧ (∀ w ∈ ws, w < 2 ^ n) ∧
    ∀ H' b, SqT K H' b (vL (Ow.plainBasis ws)) → (∀ c o, H c = some o → c ≠ p → H' c = some o) → H' p = some (.ins (CA K "Room") dx (roomF n b)) → Q .non H')
theorem tup_but {K : PySem.W.Frag} {H H' : Hp} {a p : Addr} {xs : List V} {o : HO} (hp : H p = some o) (ho : ∀ xs, o ≠ .tup xs) (ho2 : ∀ ob xs, o ≠ .frz ob (.tup xs)) (h : SqT K H a xs) (s : ∀ c o, H c = some o → c ≠ p → H' c = some o) : SqT K H' a xs := by
  rcases h with (h | ⟨ob, h⟩) | h
  · exact .inl (.inl (s _ _ h fun e => by subst e; rw [hp] at h; exact ho _ (Option.some.inj h)))
  · exact .inl (.inr ⟨ob, s _ _ h fun e => by subst e; rw [hp] at h; exact ho2 _ _ (Option.some.inj h)⟩)
  · exact .inr h
theorem ins_ne {C C' d d' : Addr} {f : Str × V} {fs : List (Str × V)} (h : some (HO.ins C d []) = some (HO.ins C' d' (f :: fs))) : False := by
  injection h with h
  injection h with _ _ h
  cases h
theorem room_end {K : PySem.W.Frag} {H H1 : Hp} {p dx a b : Addr} {n : Nat} {B : List Nat} (hp : H p = some (.ins (CA K "Room") dx [])) (s1 : Same H H1) (hb : SqT K H1 b (vL B)) {H' : Hp} (e : H' = upd (upd H1 p (.ins (CA K "Room") dx (putF "own_places" (vN n) []))) p (.ins (CA K "Room") dx (roomF n b))) :
    SqT K H' b (vL B) ∧ (∀ c o, H c = some o → c ≠ p → H' c = some o) ∧ H' p = some (.ins (CA K "Room") dx (roomF n b)) := by
  subst e
  have k : ∀ c o, H1 c = some o → c ≠ p → (upd (upd H1 p (.ins (CA K "Room") dx (putF "own_places" (vN n) []))) p (.ins (CA K "Room") dx (roomF n b))) c = some o := fun c o e ne => by rw [upd_ne ne, upd_ne ne]; exact e
  exact ⟨tup_but (s1 _ _ hp) (fun _ e => by cases e) (fun _ _ e => by cases e) hb k, fun c o e ne => k c o (s1 _ _ e) ne, upd_same⟩
theorem mak_Room (T : Tx K mg) : Mak P w K mg base 7 "Room" (CA K "Room") (sp_Room K) := by
  refine makD (ps := ["self", "places", "words"]) T.f_Room_init T.mk_Room T.g_Room (fun _ _ _ _ _ _ us hl => match us, hl with | [_, _, _], _ => rfl) sc_Room_init (fun vs H Q E h => ?_) (fun cdv A outer s H vs Q E hr h => ?_)
  · obtain ⟨p, dx, hp, ⟨a, n, B, y, rfl, _⟩ | ⟨a, n, ws, rfl, _⟩⟩ := h <;> rfl
  · obtain ⟨p, dx, hp, h⟩ := h
    rcases h with ⟨a, n, B, y, rfl, ha, q⟩ | ⟨a, n, ws, rfl, ha, h1, h24, h48, hw, q⟩
    · refine ⟨_, (pss_cons (ps_set (i := 3) sc_Room_init.nd rfl (.inl rfl) (pe_c (cal_told_room T) hr (by decide) (by rfl) (pa_cons (pv 1) (pa_cons (pv 2) pa_nil))))
      (pss_cons (ps_fld (pv 0) (pe_fld (pv 3) rfl) rfl)
      (pss_one (ps_fld (pv 0) (pe_fld (pv 3) rfl) rfl)))), ?_⟩
      refine ⟨_, rfl, _, rfl, .inl ⟨a, n, B, y, rfl, ha, ?_⟩⟩
      obtain ⟨dx1, b, ht, hb⟩ := ha
      have s1 : Same H H := Same.refl H
      have np : a ≠ p := fun e => by subst e; rw [s1 _ _ hp] at ht; exact ins_ne ht
      refine ⟨_, rfl, a, _, _, _, _, rfl, ht, T.cl_Told, T.no_told_places, lk1 n b, ?_⟩
      refine ⟨_, rfl, p, _, dx, _, rfl, s1 _ _ hp, T.cl_Room, T.no_own_places, (by decide : 0 < 1000), ?_⟩
      refine ⟨_, rfl, a, _, _, _, _, rfl, (by rw [upd_ne np]; exact ht), T.cl_Told, T.no_told_basis, lk2 n b, ?_⟩
      refine ⟨_, rfl, p, _, dx, _, rfl, upd_same, T.cl_Room, T.no_own_basis, (by show 1 < 1000; decide), ?_⟩
      obtain ⟨k1, k2, k3⟩ := room_end (a := b) hp s1 hb (n := n) (H' := upd (upd H p (.ins (CA K "Room") dx (putF "own_places" (vN n) []))) p (.ins (CA K "Room") dx (putF "own_basis" (.ref b) (putF "own_places" (vN n) [])))) (by rw [put3])
      exact q _ b k1 k2 k3
    · refine ⟨_, (pss_cons (ps_set (i := 3) sc_Room_init.nd rfl (.inl rfl) (pe_c (cal_told_room T) hr (by decide) (by rfl) (pa_cons (pv 1) (pa_cons (pv 2) pa_nil))))
      (pss_cons (ps_fld (pv 0) (pe_fld (pv 3) rfl) rfl)
      (pss_one (ps_fld (pv 0) (pe_fld (pv 3) rfl) rfl)))), ?_⟩
      refine ⟨_, rfl, _, rfl, .inr ⟨a, n, ws, rfl, ha, h1, h24, h48, hw, fun H1 t s1 ht0 => ?_⟩⟩
      obtain ⟨dx1, b, ht, hb⟩ := ht0
      have np : t ≠ p := fun e => by subst e; rw [s1 _ _ hp] at ht; exact ins_ne ht
      refine ⟨_, rfl, t, _, _, _, _, rfl, ht, T.cl_Told, T.no_told_places, lk1 n b, ?_⟩
      refine ⟨_, rfl, p, _, dx, _, rfl, s1 _ _ hp, T.cl_Room, T.no_own_places, (by decide : 0 < 1000), ?_⟩
      refine ⟨_, rfl, t, _, _, _, _, rfl, (by rw [upd_ne np]; exact ht), T.cl_Told, T.no_told_basis, lk2 n b, ?_⟩
      refine ⟨_, rfl, p, _, dx, _, rfl, upd_same, T.cl_Room, T.no_own_basis, (by show 1 < 1000; decide), ?_⟩
      obtain ⟨k1, k2, k3⟩ := room_end (a := b) hp s1 hb (n := n) (H' := upd (upd H1 p (.ins (CA K "Room") dx (putF "own_places" (vN n) []))) p (.ins (CA K "Room") dx (putF "own_basis" (.ref b) (putF "own_places" (vN n) [])))) (by rw [put3])
      exact q _ b k1 k2 k3
/-- making a Room of a list of words -/
theorem room_new {K : PySem.W.Frag} {H : Hp} {n : Nat} {ws : List Nat} {a : Addr} {Q : VK} (ha : H a = some (.lst (vL ws))) (h1 : 1 ≤ n) (h24 : n ≤ 24) (h48 : ws.length ≤ 48) (hw : ∀ w ∈ ws, w < 2 ^ n) (q : ∀ H' p, Same H H' → RoomAt K H' p n (Ow.plainBasis ws) → Q (.ref p) H') :
    ∀ x dx, H x = none → H dx = none → dx ≠ x → sp_Room K (.ref x :: [vN n, .ref a]) (upd (upd H dx (.own x)) x (.ins (CA K "Room") dx [])) (fun r H' => r = .non ∧ Q (.ref x) H') E0 := by
  intro x dx hx hdx ne
  refine ⟨x, dx, upd_same, .inr ⟨a, n, ws, rfl, by rw [upd_ne (ne_of_none ha hx), upd_ne (ne_of_none ha hdx)]; exact ha, h1, h24, h48, hw, fun H' b hb k e => ⟨rfl, q H' x ?_ ⟨dx, b, e, hb⟩⟩⟩⟩
  exact Same.made hx hdx k
/-! room_by -/
abbrev N_room_by : List Str := ["places", "basis"]
theorem sc_room_by : FnScope N_room_by ["places", "basis"] (defScope s_room_by) := ⟨rfl, rfl, rfl, by decide +kernel, rfl, by decide +kernel, by decide +kernel⟩
def sp_room_by (K : PySem.W.Frag) : Sp := fun vs H Q _ => ∃ (a : Addr) (n : Nat) (B : List Nat), vs = [vN n, .ref a] ∧ SqT K H a (vL B) ∧
  ∀ (H' : Hp) (p : Addr), Same H H' → RoomAt K H' p n B → Q (.ref p) H'
theorem cal_room_by (T : Tx K mg) : Cal P w K mg base 9 "room_by" (sp_room_by K) := by
  refine calD (ps := ["places", "basis"]) T.f_room_by (fun _ _ _ _ _ _ us hl => match us, hl with | [_, _], _ => rfl) sc_room_by (fun vs H Q E h => ?_) (fun cdv A outer s H vs Q E hr h => ?_)
  · obtain ⟨a, n, B, rfl, _⟩ := h
    rfl
  · obtain ⟨a, n, B, rfl, ha, q⟩ := h
    refine ⟨_, (pss_one (ps_ret (pe_mk (mak_Room T) hr (by decide) (by rfl) (pa_cons (pe_mk (mak_Told T) hr (by decide) (by rfl) (pa_cons (pv 0) (pa_cons (pv 1) pa_nil))) (pa_cons pe_non pa_nil))))), ?_⟩
    refine ⟨_, rfl, _, rfl, fun x dx hx hdx ne => ⟨x, dx, a, n, rfl, upd_same, fun H1 k1 e1 => ⟨rfl, ?_⟩⟩⟩
    have s1 : Same H H1 := Same.made hx hdx k1
    refine fun x2 dx2 hx2 hdx2 ne2 => ⟨x2, dx2, upd_same, .inl ⟨x, n, B, .non, rfl, ⟨dx, a, by rw [upd_ne (ne_of_none e1 hx2), upd_ne (ne_of_none e1 hdx2)]; exact e1, (Same.made hx2 hdx2 (fun _ _ e _ => e)).tup (s1.tup ha)⟩, fun H2 b hb k2 e2 => ⟨rfl, ?_⟩⟩⟩
    exact q H2 x2 (s1.trans (Same.made hx2 hdx2 k2)) ⟨dx2, b, e2, hb⟩
/-! want_room -/
abbrev N_want_room : List Str := ["value"]
theorem sc_want_room : FnScope N_want_room ["value"] (defScope s_want_room) := ⟨rfl, rfl, rfl, by decide +kernel, rfl, by decide +kernel, by decide +kernel⟩
def sp_want_room (K : PySem.W.Frag) : Sp := fun vs H Q _ => ∃ (a : Addr) (n : Nat) (B : List Nat), vs = [.ref a] ∧ RoomAt K H a n B ∧ Q .non H
theorem cal_want_room (T : Tx K mg) : Cal P w K mg base 1 "want_room" (sp_want_room K) := by
  refine calD (ps := ["value"]) T.f_want_room (fun _ _ _ _ _ _ us hl => match us, hl with | [_], _ => rfl) sc_want_room (fun vs H Q E h => ?_) (fun cdv A outer s H vs Q E hr h => ?_)
  · obtain ⟨a, n, B, rfl, _⟩ := h
    rfl
  · obtain ⟨a, n, B, rfl, ⟨dx, b, ha, hb⟩, q⟩ := h
    refine ⟨_, (pss_one (ps_if (pt_not (pt_val (pe_callB call_isi (by rfl) T.b_isinstance bt_isinstance (pa_cons (pv 0) (pa_cons (pe_glob (v := .ref (CA K "Room")) rfl T.g_Room rfl) pa_nil)))))
        (pss_one ps_never)
        pss_nil)), ?_⟩
    refine ⟨_, rfl, _, _, _, _, true, rfl, .own _, InsTy.of T.ti_Room T.cl_Room ha, kit_same _ (beq_self_eq_true _), _, rfl, ?_⟩
    exact q
end
end Oc
set_option Elab.async false
set_option linter.all false
set_option maxRecDepth 100000
set_option maxHeartbeats 4000000
namespace Ow
theorem wt_sum (w : Nat) : wt w = (if w.testBit 0 then 1 else 0) + (if w.testBit 1 then 1 else 0) + (if w.testBit 2 then 1 else 0) + (if w.testBit 3 then 1 else 0) + (if w.testBit 4 then 1 else 0) + (if w.testBit 5 then 1 else 0) + (if w.testBit 6 then 1 else 0) + (if w.testBit 7 then 1 else 0)
   + (if w.testBit 8 then 1 else 0) + (if w.testBit 9 then 1 else 0) + (if w.testBit 10 then 1 else 0) + (if w.testBit 11 then 1 else 0) + (if w.testBit 12 then 1 else 0) + (if w.testBit 13 then 1 else 0) + (if w.testBit 14 then 1 else 0) + (if w.testBit 15 then 1 else 0)
   + (if w.testBit 16 then 1 else 0) + (if w.testBit 17 then 1 else 0) + (if w.testBit 18 then 1 else 0) + (if w.testBit 19 then 1 else 0) + (if w.testBit 20 then 1 else 0) + (if w.testBit 21 then 1 else 0) + (if w.testBit 22 then 1 else 0) + (if w.testBit 23 then 1 else 0) := by
  show List.countP (fun p => w.testBit p) [0, 1, 2, 3, 4, 5, 6, 7, 8, 9, 10, 11, 12, 13, 14, 15, 16, 17, 18, 19, 20, 21, 22, 23] = _
  simp only [List.countP_cons, List.countP_nil]
  omega
theorem wt_low (w k : Nat) : wt (w >>> k &&& 15) = (if w.testBit k then 1 else 0) + (if w.testBit (k + 1) then 1 else 0) + (if w.testBit (k + 2) then 1 else 0) + (if w.testBit (k + 3) then 1 else 0) := by
  have e : w >>> k &&& 15 = (w >>> k) % 2 ^ 4 := Nat.and_two_pow_sub_one_eq_mod _ 4
  rw [wt_eq (n := 4) (by rw [e]; exact Nat.mod_lt _ (by decide)) (by decide)]
  show List.countP (fun p => (w >>> k &&& 15).testBit p) [0, 1, 2, 3] = _
  rw [e]
  simp only [List.countP_cons, List.countP_nil, Nat.testBit_mod_two_pow, Nat.testBit_shiftRight]
  simp
  omega
theorem wt_parts {w : Nat} (h : w < 2 ^ 24) : wt w = wt (w &&& 15) + wt (w >>> 4 &&& 15) + wt (w >>> 8 &&& 15) + wt (w >>> 12 &&& 15) + wt (w >>> 16 &&& 15) + wt (w >>> 20) := by
  have e1 : w &&& 15 = w >>> 0 &&& 15 := rfl
  have e2 : w >>> 20 = w >>> 20 &&& 15 := by
    have h2 : w >>> 20 < 2 ^ 4 := by
      rw [Nat.shiftRight_eq_div_pow, Nat.div_lt_iff_lt_mul (by decide)]
      exact h
    have e : w >>> 20 &&& 15 = (w >>> 20) % 2 ^ 4 := Nat.and_two_pow_sub_one_eq_mod _ 4
    rw [e, Nat.mod_eq_of_lt h2]
  rw [e1, e2, wt_low, wt_low, wt_low, wt_low, wt_low, wt_low, wt_sum]
  simp only [Nat.zero_add, Nat.reduceAdd]
  omega
theorem spots_last {b : Nat} (h0 : b ≠ 0) (h : b < 2 ^ 24) : ∃ l, spots b = l ++ [b.log2] := by
  have hl : b.log2 < 24 := (Nat.log2_lt h0).mpr h
  have e : List.range 24 = List.range (b.log2 + 1) ++ (List.range (24 - (b.log2 + 1))).map fun x => (b.log2 + 1) + x := by
    rw [← List.range_add]
    congr 1
    omega
  refine ⟨(List.range b.log2).filter fun p => b.testBit p, ?_⟩
  unfold spots
  rw [e, List.filter_append, List.range_succ, List.filter_append]
  have e2 : ([b.log2].filter fun p => b.testBit p) = [b.log2] := by simp [log2_bit h0]
  have e3 : (((List.range (24 - (b.log2 + 1))).map fun x => (b.log2 + 1) + x).filter fun p => b.testBit p) = [] := by
    rw [List.filter_eq_nil_iff]
    intro a ha
    obtain ⟨x, _, rfl⟩ := List.mem_map.mp ha
    rw [above_log2 (by omega)]
    decide
  rw [e2, e3, List.append_nil]
end Ow
namespace Oc
open PySem PySem.Spec PyProof.Rows L2
theorem bl_eq {b c : Bool} {Q : VK} {H : Hp} (e : b = c) (q : Q (.bl c) H) : Q (.bl b) H := e ▸ q
theorem val_eq {x y : V} {Q : VK} {H : Hp} (e : x = y) (q : Q y H) : Q x H := e ▸ q
theorem dec_iff {p q : Prop} [Decidable p] [Decidable q] (h : p ↔ q) : decide p = decide q := decide_eq_decide.mpr h
theorem same_updF {H1 H : Hp} {f : Addr} {o : HO} (hf : H1 f = none) (s : Same H1 H) : Same H1 (upd H f o) := fun b x e => by
  rw [upd_ne (ne_of_none e hf)]
  exact s b x e
theorem half_all : ∀ x, x < 16 → atI (halves.map V.int) ((x : Nat) : Int) = some (vN (Ow.wt x)) := by decide +kernel
theorem and15 (x : Nat) : x &&& 15 < 16 := by
  have e : x &&& 15 = x % 2 ^ 4 := Nat.and_two_pow_sub_one_eq_mod _ 4
  rw [e]
  exact Nat.mod_lt _ (by decide)
theorem half_sh (w k : Nat) : atI (halves.map V.int) (Builtin.bitAnd ((w : Int) / 2 ^ ((k : Nat) : Int).toNat) ((15 : Nat) : Int)) = some (vN (Ow.wt (w >>> k &&& 15))) := by
  rw [shr, bAnd]
  exact half_all _ (and15 _)
theorem half_low (w : Nat) : atI (halves.map V.int) (Builtin.bitAnd (w : Int) ((15 : Nat) : Int)) = some (vN (Ow.wt (w &&& 15))) := by
  rw [bAnd]
  exact half_all _ (and15 _)
theorem half_top {w : Nat} (h : w < 2 ^ 24) : atI (halves.map V.int) ((w : Int) / 2 ^ ((20 : Nat) : Int).toNat) = some (vN (Ow.wt (w >>> 20))) := by
  rw [shr]
  refine half_all _ ?_
  rw [Nat.shiftRight_eq_div_pow, Nat.div_lt_iff_lt_mul (by decide)]
  exact h
theorem bit_one (w b : Nat) : (V.int (Builtin.bitAnd ((w : Int) / 2 ^ ((b : Nat) : Int).toNat) ((1 : Nat) : Int)) = V.int 1) ↔ w.testBit b = true := by
  rw [shr, bAnd, Nat.and_one_is_mod]
  have e : w.testBit b = decide (w >>> b % 2 = 1) := by rw [Nat.testBit_eq_decide_div_mod_eq, Nat.shiftRight_eq_div_pow]
  rw [e, decide_eq_true_iff]
  constructor
  · intro h
    have := V.int.inj h
    omega
  · intro h
    rw [h]
    rfl
theorem shl1 (k : Nat) : (1 : Int) * 2 ^ ((k : Nat) : Int).toNat = ((2 ^ k : Nat) : Int) := by
  rw [Int.toNat_natCast]
  push_cast
  omega
theorem cpow1 {k : Nat} (h : k ≤ 1000) : CPow 1 ((k : Nat) : Int) := ⟨Int.natCast_nonneg k, by omega, by decide⟩
theorem inV_nat (w : Nat) (l : List Nat) : inV (vN w) (vL l) = decide (w ∈ l) := by
  unfold inV
  rw [List.any_map]
  induction l with
  | nil => simp
  | cons a l ih =>
    rw [List.any_cons, ih]
    have e : eqV (vN a) (vN w) = decide (w = a) := by
      show decide ((a : Int) = (w : Int)) = _
      exact dec_iff ⟨fun h => by omega, fun h => by omega⟩
    show (eqV (vN a) (vN w) || _) = _
    rw [e]
    by_cases h : w = a <;> simp [h]
theorem flat_nat (l : List Nat) : (vL l).all flatV = true := by
  rw [List.all_map, List.all_eq_true]
  exact fun _ _ => rfl
theorem atI_last {l : List V} {x : V} : atI (l ++ [x]) (-1) = some x := by
  unfold atI ixN
  rw [if_neg (by decide), if_pos (by rw [List.length_append, List.length_singleton]; omega)]
  show (l ++ [x])[(-1 + ((l ++ [x]).length : Int)).toNat]? = some x
  rw [List.length_append, List.length_singleton, show (-1 + ((l.length + 1 : Nat) : Int)).toNat = l.length by omega]
  simp
theorem nat_sum (l : List Nat) : (l.map iN).sum = ((l.sum : Nat) : Int) := by
  induction l with
  | nil => rfl
  | cons a l ih => rw [List.map_cons, List.sum_cons, ih, List.sum_cons]; push_cast; rfl
/-! rules whose reading names K, for the inside of a comprehension -/
section
variable {X : Cx} {K' : PySem.W.Frag} {pos cpos apos : Pos} {o : Expr}
theorem pg_tupK {es : List Expr} {k : Nat} {t : TGs} {n : Nat} (hK : X.K = K') (hc : X.calm = true) (h : PGs X es t)
    (hn : (assignEach es X.env).length = n := by rfl) (hst : (assignEach es X.env).findIdx? (·.1) = none := by rfl) : PG X (.Tuple es k pos) (gTup K' n t) := hK ▸ pg_tup hc h hn hst
theorem pi_listK {tg l : Expr} {tl : TE} (hK : X.K = K') (hl : PE X l tl) : PI X tg l (iList K' tl) := hK ▸ pi_list hl
theorem pe_bmK {T id : String} {name : Str} {r : V → List V → Hp → VK → Prop} {to : TE} {t : TA} {e : Expr} {es : List Expr} (hK : X.K = K') (pa : PlainAttrs T) (slot : Slot T name id) (hty : typeOf (.builtin id) = pure (.type "method_descriptor")) (hm : MtR X id r) (ho : PE X o to) (ha : PA X (e :: es) t)
    (hbase : attributeBase o name X.env (eval o X.env) = eval o X.env := by rfl)
    (hfew : ((backTo cpos (starEach (e :: es) X.env)).all (fun x => !x.1) && (backToKw cpos (keywordEach [] X.env)).all (fun x => x.1.isSome)
      && decide ((e :: es).length + ([] : List Keyword).length + (if ([] : List Keyword).isEmpty then 0 else 1) < 30)) = true := by rfl)
    (hline : (apos.endLine == cpos.line) = true := by rfl) (hs : starEach (e :: es) X.env = (false, eval e X.env) :: starEach es X.env := by rfl) (hplain : (backTo cpos (starEach es X.env)).any (·.1) = false := by rfl) :
    PE X (.Call (.Attribute o name apos) (e :: es) [] cpos) (tBM K' T r to t) := hK ▸ pe_bm pa slot hty hm ho ha hbase hfew hline hs hplain
def rLenQ (K : PySem.W.Frag) : List V → Hp → VK → Prop := fun xs H Q => ∃ p ys, xs = [.ref p] ∧ (SqL K H p ys ∨ SqT K H p ys) ∧ Q (.int ys.length) H
theorem call_lenQ : CallR X (.builtin "len") (rLenQ X.K) := call_len_seq
end
/-! operators on naturals -/
def rN0 (g : Nat → Nat → V) : R2 := fun x y H Q => ∃ i j : Nat, x = vN i ∧ y = vN j ∧ Q (g i j) H
def rNC (C : Nat → Nat → Prop) (g : Nat → Nat → V) : R2 := fun x y H Q => ∃ i j : Nat, x = vN i ∧ y = vN j ∧ C i j ∧ Q (g i j) H
section
variable {X : Cx}
theorem op0N {f : Value → Value → Sem Value} {g : Int → Int → V} {gN : Nat → Nat → V} (h : OpR X f (rI0 g)) (e : ∀ i j : Nat, g i j = gN i j) : OpR X f (rN0 gN) := by
  intro pins s σ H x y v u Q I rx ry hh
  obtain ⟨i, j, rfl, rfl, q⟩ := hh
  exact h pins s σ H _ _ v u Q I rx ry ⟨_, _, rfl, rfl, val_eq (e i j) q⟩
theorem opCN {f : Value → Value → Sem Value} {C : Int → Int → Prop} {CN : Nat → Nat → Prop} {g : Int → Int → V} {gN : Nat → Nat → V} (h : OpR X f (rI C g)) (c : ∀ i j : Nat, CN i j → C i j) (e : ∀ i j : Nat, CN i j → g i j = gN i j) : OpR X f (rNC CN gN) := by
  intro pins s σ H x y v u Q I rx ry hh
  obtain ⟨i, j, rfl, rfl, k, q⟩ := hh
  exact h pins s σ H _ _ v u Q I rx ry ⟨_, _, rfl, rfl, c i j k, val_eq (e i j k) q⟩
theorem op_addN : OpR X (binaryOp .Add) (rN0 fun i j => vN (i + j)) := op0N op_add fun i j => congrArg V.int (by push_cast; rfl)
theorem op_subN : OpR X (binaryOp .Sub) (rNC (fun i j => j ≤ i) fun i j => vN (i - j)) := by
  intro pins s σ H x y v u Q I rx ry hh
  obtain ⟨i, j, rfl, rfl, k, q⟩ := hh
  exact op_sub pins s σ H _ _ v u Q I rx ry ⟨_, _, rfl, rfl, val_eq (congrArg V.int (by omega)) q⟩
theorem op_mulN : OpR X (binaryOp .Mult) (rNC (fun i j => i < 2 ^ 60 ∨ j < 2 ^ 60) fun i j => vN (i * j)) :=
  opCN op_mul (fun i j h => by
    have e : (2 : Int) ^ 64 = 18446744073709551616 := by decide
    rcases h with h | h
    · exact .inl ⟨by rw [e]; omega, by rw [e]; omega⟩
    · exact .inr ⟨by rw [e]; omega, by rw [e]; omega⟩) fun i j _ => congrArg V.int (by push_cast; rfl)
theorem op_andN : OpR X (binaryOp .BitAnd) (rN0 fun i j => vN (i &&& j)) := op0N op_and fun i j => congrArg V.int (bAnd i j)
theorem op_orN : OpR X (binaryOp .BitOr) (rN0 fun i j => vN (i ||| j)) := op0N op_or fun i j => congrArg V.int (bOr i j)
theorem op_xorN : OpR X (binaryOp .BitXor) (rN0 fun i j => vN (i ^^^ j)) := op0N op_xor fun i j => congrArg V.int (bXor i j)
theorem op_shrN : OpR X (binaryOp .RShift) (rN0 fun i j => vN (i >>> j)) := by
  intro pins s σ H x y v u Q I rx ry hh
  obtain ⟨i, j, rfl, rfl, q⟩ := hh
  exact op_shr pins s σ H _ _ v u Q I rx ry ⟨_, _, rfl, rfl, Int.natCast_nonneg j, val_eq (congrArg V.int (shr i j)) q⟩
theorem op_shlN : OpR X (binaryOp .LShift) (rNC (fun i j => i < 2 ^ 60 ∧ j ≤ 1000) fun i j => vN (i <<< j)) :=
  opCN op_shl (fun i j h => ⟨Int.natCast_nonneg j, by omega, by show i < 2 ^ 64; omega⟩) fun i j _ => congrArg V.int (by rw [Int.toNat_natCast, Nat.shiftLeft_eq]; push_cast; rfl)
theorem op_ltN : OpR X (compareOp .Lt) (rN0 fun i j => .bl (decide (i < j))) := op0N op_lt fun i j => congrArg V.bl (dec_iff (by omega))
theorem op_leN : OpR X (compareOp .LtE) (rN0 fun i j => .bl (decide (i ≤ j))) := op0N op_le fun i j => congrArg V.bl (dec_iff (by omega))
theorem op_gtN : OpR X (compareOp .Gt) (rN0 fun i j => .bl (decide (j < i))) := op0N op_gt fun i j => congrArg V.bl (dec_iff (by omega))
theorem op_geN : OpR X (compareOp .GtE) (rN0 fun i j => .bl (decide (j ≤ i))) := op0N op_ge fun i j => congrArg V.bl (dec_iff (by omega))
theorem op_eqN : OpR X (compareOp .Eq) (rN0 fun i j => .bl (decide (i = j))) := by
  intro pins s σ H x y v u Q I rx ry hh
  obtain ⟨i, j, rfl, rfl, q⟩ := hh
  exact op_eq pins s σ H _ _ v u Q I rx ry ⟨rfl, bl_eq (dec_iff ⟨fun h => by have := V.int.inj h; omega, fun h => by rw [h]⟩) q⟩
theorem op_neN : OpR X (compareOp .NotEq) (rN0 fun i j => .bl (!decide (i = j))) := by
  intro pins s σ H x y v u Q I rx ry hh
  obtain ⟨i, j, rfl, rfl, q⟩ := hh
  exact op_ne pins s σ H _ _ v u Q I rx ry ⟨rfl, bl_eq (congrArg not (dec_iff ⟨fun h => by have := V.int.inj h; omega, fun h => by rw [h]⟩)) q⟩
/-- n in a list or tuple of naturals -/
def rInN (K : PySem.W.Frag) (neg : Bool) : R2 := fun x y H Q => ∃ (n : Nat) (p : Addr) (l : List Nat), x = vN n ∧ y = .ref p ∧ (SqL K H p (vL l) ∨ SqT K H p (vL l)) ∧ Q (.bl (if neg then !decide (n ∈ l) else decide (n ∈ l))) H
theorem op_notInN : OpR X (compareOp .NotIn) (rInN X.K true) := by
  intro pins s σ H x y v u Q I rx ry hh
  obtain ⟨n, p, l, rfl, rfl, hq, q⟩ := hh
  exact op_notIn_seq pins s σ H _ _ v u Q I rx ry ⟨p, vL l, rfl, hq, rfl, flat_nat l, by rw [inV_nat]; exact q⟩
def rSumN (K : PySem.W.Frag) : List V → Hp → VK → Prop := fun vs H Q => ∃ (a : Addr) (ns : List Nat), vs = [V.ref a] ∧ SqL K H a (vL ns) ∧ Q (vN ns.sum) H
theorem cr_sumN (hc : X.calm = true) : CallR X (.builtin "sum") (rSumN X.K) := by
  intro pins s σ H xs us Q I r h
  obtain ⟨a, ns, rfl, hs, q⟩ := h
  exact cr_sum hc pins s σ H _ us Q I r ⟨a, ns.map iN, rfl, by rw [map_nat_int]; exact hs, val_eq (congrArg V.int (nat_sum ns)) q⟩
def rSortedN (K : PySem.W.Frag) : List V → Hp → VK → Prop := fun vs H Q => ∃ (a : Addr) (ns : List Nat), vs = [V.ref a] ∧ SqL K H a (vL ns) ∧ ns.length < 64 ∧ ∀ p, H p = none → Q (.ref p) (upd H p (.lst (vL (Ow.upN ns))))
theorem cr_sortedN : CallR X (.builtin "sorted") (rSortedN X.K) := by
  intro pins s σ H xs us Q I r h
  obtain ⟨a, ns, rfl, hs, hl, q⟩ := h
  refine cr_sorted pins s σ H _ us Q I r ⟨a, ns.map iN, rfl, by rw [map_nat_int]; exact hs, by rw [List.length_map]; exact hl, fun ns' p hp ho hn => ?_⟩
  obtain ⟨m, rfl, hm⟩ := ints_back hp
  have so : m.Pairwise fun a b => a ≤ b := by
    rw [List.pairwise_map] at ho
    exact ho.imp fun h => by unfold iN at h; omega
  rw [map_nat_int, Ow.upN_of hm so]
  exact q p hn
end
theorem vL_some {B : List Nat} {k b : Nat} {x : V} (g : B[k]? = some b) (e : (vL B)[k]? = some x) : x = vN b := by
  rw [List.getElem?_map, g] at e
  exact (Option.some.inj e).symm
theorem filt1_no {α : Type} {p : α → Bool} {i : α} (h : p i = false) : [i].filter p = [] := by rw [List.filter_cons, h]; rfl
theorem filt1_yes {α : Type} {p : α → Bool} {i : α} (h : p i = true) : [i].filter p = [i] := by rw [List.filter_cons, h]; rfl
theorem atI_at {l : List Nat} {i : Nat} (h : i < l.length) : atI (vL l) ((i : Nat) : Int) = some (vN (l.getD i 0)) := by
  unfold atI ixN
  rw [if_pos (Int.natCast_nonneg i), if_pos (by rw [vL_length]; omega)]
  show (vL l)[((i : Nat) : Int).toNat]? = _
  rw [Int.toNat_natCast, List.getElem?_map, List.getElem?_eq_getElem h, List.getD_eq_getElem?_getD, List.getElem?_eq_getElem h]
  rfl
/-! comprehension over any walk -/
section
variable {ι : Type} {l : List ι} {p : ι → Bool} {ρ : ι → V → Hp → Prop} {J : It} {n : Nat} {G : Hp → Prop} {Y : Nat → Hp → V → Hp → Prop} {g : TG} {tt : TT} {te : TE} {vs : List Nat} {σ : L2.St} {H1 : Hp} {D : Addr} {Qd : Hp → Prop}
theorem lcGW (w : Walk J n G Y) (l : List ι) (p : ι → Bool) (ρ : ι → V → Hp → Prop) (hl : l.length = n) (hD : H1 D = none) (hG : ∀ H, Same H1 H → G H) (hlen : l.length < sizeLine) (hst : ∀ b y H H', ρ b y H → But D H H' → ρ b y H')
    (turn : ∀ (i : Nat) (b : ι) (x : V) (H H' : Hp) (Qn : VK) (Qs : Hp → Prop), l[i]? = some b → Same H1 H → Y i H x H' → (∃ acc, H D = some (.lst acc)) → (p b = true → ∀ y H4, Same H H4 → ρ b y H4 → Qn y H4) → (p b = false → ∀ H3, Same H H3 → Qs H3) →
      g x (wipe σ vs) H' fun σ2 H2 => wipe σ2 vs = wipe σ vs ∧ tt σ2 H2 fun c H3 => if c = true then te σ2 H3 Qn else Qs H3)
    (hd : ∀ H ys, Same H1 H → H D = some (.lst ys) → Paired (fun b y => ρ b y H) (l.filter p) ys → Qd H) :
    ∃ W : Nat → Nat → Hp → Prop, (∃ m, W 0 m (upd H1 D (.lst []))) ∧ ∀ i m H, W i m H →
      (J.stop i H ∧ Qd H) ∨ (J.go i H ∧ ∃ Nx : Hp → Prop, (∀ H', Nx H' → ∃ m', m' < m ∧ W (i + 1) m' H') ∧ ∀ x H', J.yld i H x H' → g x (wipe σ vs) H' fun σ2 H2 => wipe σ2 vs = wipe σ vs ∧ tt σ2 H2 fun b H3 =>
        if b = true then te σ2 H3 fun y H4 => ∃ acc, H4 D = some (.lst acc) ∧ acc.length < sizeLine ∧ Nx (upd H4 D (.lst (acc ++ [y]))) else Nx H3) := by
  refine lc_it w (LcInv l p ρ H1 D) (lcInv_start hD) (fun i H _ h => hG H h.1) (fun i x H H' hi h y => ?_) fun H h => ?_
  · have hb : l[i]? = some (l[i]'(by omega)) := List.getElem?_eq_getElem (by omega)
    have h' := h
    obtain ⟨h1, ys, h2, h3, h4⟩ := h
    exact turn i _ x H H' _ _ hb h1 y ⟨ys, h2⟩ (fun hp y H4 s r => lcInv_yes hD hlen hb h' hst hp s r) fun hp H3 s => lcInv_no hb h' hst hp s
  · rw [← hl] at h
    exact lcInv_end h hd
end
section
variable {K : PySem.W.Frag} {a b : Addr} {xs ys : List V}
theorem walk_enumT : Walk (IteT K a) xs.length (fun H => SqT K H a xs) (YPair (fun i => some (.int (i : Nat))) (fun i => xs[i]?)) := by
  refine ⟨fun i _ hi q => ⟨xs, xs[i], q, by simp [hi]⟩, fun _ q => ⟨xs, q, rfl⟩, fun i H v H' _ q y => ?_⟩
  obtain ⟨T, x, h1, h2, h3, h4⟩ := y
  exact ⟨T, .int (i : Nat), x, h1, h2, h3, rfl, h4 xs q⟩
theorem walk_zipM {n : Nat} (hn : n = min xs.length ys.length) : Walk (ItzM K a b) n (fun H => SqT K H a xs ∧ SqL K H b ys) (YPair (fun i => xs[i]?) (fun i => ys[i]?)) := by
  subst hn
  refine ⟨fun i _ hi q => ?_, fun _ q => ⟨xs, ys, q.1, q.2, rfl⟩, fun i H v H' _ q y => ?_⟩
  · have h1 : i < xs.length := by omega
    have h2 : i < ys.length := by omega
    exact ⟨xs, ys, xs[i], ys[i], q.1, q.2, by simp [h1], by simp [h2]⟩
  · obtain ⟨T, x, z, h1, h2, h3, h4, h5⟩ := y
    exact ⟨T, x, z, h1, h2, h3, h4 xs q.1, h5 ys q.2⟩
end
section
variable {P : Program} {w : World} {K : PySem.W.Frag} {mg : Str → Option Value} {base : Heap}
abbrev N_weight_of : List Str := ["word", "low"]
theorem sc_weight_of : FnScope N_weight_of ["word"] (defScope s_weight_of) := ⟨rfl, rfl, rfl, by decide +kernel, rfl, by decide +kernel, by decide +kernel⟩
def sp_weight_of : Sp := fun vs H Q _ => ∃ (w : Nat), vs = [vN w] ∧ w < 2 ^ 24 ∧ Q (vN (Ow.wt w)) H
theorem cal_weight_of (T : Tx K mg) : Cal P w K mg base 1 "weight_of" sp_weight_of := by
  refine calD (ps := ["word"]) T.f_weight_of (fun _ _ _ _ _ _ us hl => match us, hl with | [_], _ => rfl) sc_weight_of (fun vs H Q E h => ?_) (fun cdv A outer s H vs Q E hr h => ?_)
  · obtain ⟨i, rfl, _⟩ := h
    rfl
  · obtain ⟨w, rfl, hw, q⟩ := h
    refine ⟨_, (pss_cons (ps_set (i := 1) sc_weight_of.nd rfl (.inl rfl) (pe_op op_add (pe_op op_add (pe_ix ix_tup (pe_glob (v := .ref (CA K "HALVES")) rfl T.g_HALVES rfl) (pe_op op_and (pv 0) pe_int) (fun _ _ => rfl)) (pe_ix ix_tup (pe_glob (v := .ref (CA K "HALVES")) rfl T.g_HALVES rfl) (pe_op op_and (pe_op op_shr (pv 0) pe_int) pe_int) (fun _ _ => rfl))) (pe_ix ix_tup (pe_glob (v := .ref (CA K "HALVES")) rfl T.g_HALVES rfl) (pe_op op_and (pe_op op_shr (pv 0) pe_int) pe_int) (fun _ _ => rfl))))
      (pss_one (ps_ret (pe_op op_add (pe_op op_add (pe_op op_add (pv 1) (pe_ix ix_tup (pe_glob (v := .ref (CA K "HALVES")) rfl T.g_HALVES rfl) (pe_op op_and (pe_op op_shr (pv 0) pe_int) pe_int) (fun _ _ => rfl))) (pe_ix ix_tup (pe_glob (v := .ref (CA K "HALVES")) rfl T.g_HALVES rfl) (pe_op op_and (pe_op op_shr (pv 0) pe_int) pe_int) (fun _ _ => rfl))) (pe_ix ix_tup (pe_glob (v := .ref (CA K "HALVES")) rfl T.g_HALVES rfl) (pe_op op_shr (pv 0) pe_int) (fun _ _ => rfl)))))), ?_⟩
    have tH := fun H => T.t_HALVES H
    refine ⟨_, rfl, _, _, rfl, rfl, _, _, _, _, rfl, rfl, tH _, half_low w, _, rfl, _, _, rfl, rfl, (Int.natCast_nonneg 4), _, _, rfl, rfl, _, _, _, _, rfl, rfl, tH _, half_sh w 4, _, _, rfl, rfl, _, rfl, _, _, rfl, rfl, (Int.natCast_nonneg 8), _, _, rfl, rfl, _, _, _, _, rfl, rfl, tH _, half_sh w 8, _, _, rfl, rfl, ?_⟩
    refine ⟨_, rfl, _, rfl, _, _, rfl, rfl, (Int.natCast_nonneg 12), _, _, rfl, rfl, _, _, _, _, rfl, rfl, tH _, half_sh w 12, _, _, rfl, rfl, _, rfl, _, _, rfl, rfl, (Int.natCast_nonneg 16), _, _, rfl, rfl, _, _, _, _, rfl, rfl, tH _, half_sh w 16, _, _, rfl, rfl, _, rfl, _, _, rfl, rfl, (Int.natCast_nonneg 20), _, _, _, _, rfl, rfl, tH _, half_top hw, _, _, rfl, rfl, ?_⟩
    refine val_eq ?_ q
    rw [Ow.wt_parts hw]
    rfl
abbrev N_is_odd : List Str := ["word"]
theorem sc_is_odd : FnScope N_is_odd ["word"] (defScope s_is_odd) := ⟨rfl, rfl, rfl, by decide +kernel, rfl, by decide +kernel, by decide +kernel⟩
def sp_is_odd : Sp := fun vs H Q _ => ∃ (w : Nat), vs = [vN w] ∧ w < 2 ^ 24 ∧ Q (.bl (decide (Ow.wt w % 2 = 1))) H
theorem and1 (w : Nat) : (V.int (Builtin.bitAnd (w : Int) ((1 : Nat) : Int)) = V.int 1) ↔ w % 2 = 1 := by
  rw [bAnd, Nat.and_one_is_mod]
  constructor
  · intro h
    have := V.int.inj h
    omega
  · intro h
    rw [h]
    rfl
theorem cal_is_odd (T : Tx K mg) : Cal P w K mg base 2 "is_odd" sp_is_odd := by
  refine calD (ps := ["word"]) T.f_is_odd (fun _ _ _ _ _ _ us hl => match us, hl with | [_], _ => rfl) sc_is_odd (fun vs H Q E h => ?_) (fun cdv A outer s H vs Q E hr h => ?_)
  · obtain ⟨i, rfl, _⟩ := h
    rfl
  · obtain ⟨w, rfl, hw, q⟩ := h
    refine ⟨_, (pss_one (ps_ret (pe_cmpR op_eq (pe_op op_and (pe_c (cal_weight_of T) hr (by decide) (by rfl) (pa_cons (pv 0) pa_nil)) pe_int) pe_int (nomark _)))), ?_⟩
    refine ⟨_, rfl, w, rfl, hw, _, _, rfl, rfl, rfl, ?_⟩
    exact bl_eq (dec_iff (and1 _)) q
abbrev N_spots_of : List Str := ["word", "place"]
theorem sc_spots_of : FnScope N_spots_of ["word"] (defScope s_spots_of) := ⟨rfl, rfl, rfl, by decide +kernel, rfl, by decide +kernel, by decide +kernel⟩
def sp_spots_of : Sp := fun vs H Q _ => ∃ (w : Nat), vs = [vN w] ∧ ∀ (H' : Hp) (p : Addr), H p = none → Same H H' → H' p = some (.lst (vL (Ow.spots w))) → Q (.ref p) H'
theorem cal_spots_of (T : Tx K mg) : Cal P w K mg base 1 "spots_of" sp_spots_of := by
  refine calD (ps := ["word"]) T.f_spots_of (fun _ _ _ _ _ _ us hl => match us, hl with | [_], _ => rfl) sc_spots_of (fun vs H Q E h => ?_) (fun cdv A outer s H vs Q E hr h => ?_)
  · obtain ⟨i, rfl, _⟩ := h
    rfl
  · obtain ⟨w, rfl, q⟩ := h
    refine ⟨_, (pss_one (ps_ret (pe_lc (own := [("place", 1)]) (by rfl) sc_spots_of.nd (pi_range1 rfl T.b_range (pa_cons (pe_ci rfl T.c_MOST_PLACES_basics) pa_nil)) (blkOk_by (N := N_spots_of) (sc := defScope s_spots_of) (by decide +kernel)) (fun _ _ _ _ _ => (pg_name (i := 1) sc_spots_of.nd rfl (.inl rfl))) (fun _ _ _ _ _ => (pts_one (pt_cmpR op_eq (pe_op op_and (pe_op op_shr (pv 0) (pv 1)) pe_int) pe_int (nomark _)))) (fun _ _ _ _ _ => (pv 1))))), ?_⟩
    refine ⟨_, rfl, by decide, by decide, fun D hD => lcGR (fun b => w.testBit b) (fun b y _ => y = vN b) hD (small (by decide)) pure_stays ?_ ?_⟩
    · intro b H2 Qn Qs hb s _ k1 k2
      refine ⟨rfl, _, rfl, _, rfl, _, _, rfl, rfl, Int.natCast_nonneg b, _, _, rfl, rfl, rfl, _, rfl, ite2 (fun e => ?_) fun e => ?_⟩
      · exact ⟨_, rfl, k1 ((bit_one w b).mp (of_decide_eq_true e)) _ _ (Same.refl _) rfl⟩
      · exact k2 (Bool.not_eq_true _ ▸ fun z => e (decide_eq_true ((bit_one w b).mpr z))) _ (Same.refl _)
    · intro H2 ys s1 hy pr
      have ey := Paired.eq_map pr
      subst ey
      exact q H2 D hD s1 hy
abbrev N_all_on : List Str := ["places"]
theorem sc_all_on : FnScope N_all_on ["places"] (defScope s_all_on) := ⟨rfl, rfl, rfl, by decide +kernel, rfl, by decide +kernel, by decide +kernel⟩
def sp_all_on : Sp := fun vs H Q _ => ∃ (n : Nat), vs = [vN n] ∧ n ≤ 1000 ∧ Q (vN (2 ^ n - 1)) H
theorem cal_all_on (T : Tx K mg) : Cal P w K mg base 1 "all_on" sp_all_on := by
  refine calD (ps := ["places"]) T.f_all_on (fun _ _ _ _ _ _ us hl => match us, hl with | [_], _ => rfl) sc_all_on (fun vs H Q E h => ?_) (fun cdv A outer s H vs Q E hr h => ?_)
  · obtain ⟨i, rfl, _⟩ := h
    rfl
  · obtain ⟨n, rfl, hn, q⟩ := h
    refine ⟨_, (pss_one (ps_ret (pe_op op_sub (pe_op op_shl pe_int (pv 0)) pe_int))), ?_⟩
    refine ⟨_, rfl, _, _, rfl, rfl, cpow1 hn, _, _, rfl, rfl, ?_⟩
    refine val_eq ?_ q
    rw [shl1]
    have := Nat.two_pow_pos n
    exact congrArg V.int (by omega)
end
end Oc
set_option Elab.async false
set_option linter.all false
set_option maxRecDepth 100000
set_option maxHeartbeats 4000000
namespace Oc
open PySem PySem.Spec PyProof.Rows L2
section
variable {P : Program} {w : World} {K : PySem.W.Frag} {mg : Str → Option Value} {base : Heap}
abbrev N_contrary_basis : List Str := ["places", "basis", "highs", "found", "place", "word", "taken", "one", "high"]
theorem sc_contrary_basis : FnScope N_contrary_basis ["places", "basis"] (defScope s_contrary_basis) := ⟨rfl, rfl, rfl, by decide +kernel, rfl, by decide +kernel, by decide +kernel⟩
def sp_contrary_basis (K : PySem.W.Frag) : Sp := fun vs H Q _ => ∃ (a : Addr) (n : Nat) (B : List Nat), vs = [vN n, .ref a] ∧ SqT K H a (vL B) ∧ Ow.Plain B ∧ (∀ b ∈ B, b < 2 ^ n) ∧ n ≤ 24 ∧
  ∀ (H' : Hp) (p : Addr), Same H H' → SqT K H' p (vL (Ow.contraryBasis n B)) → Q (.ref p) H'
abbrev logsOf (B : List Nat) : List Nat := B.map fun b => b.log2
abbrev highsOf (B : List Nat) : List Nat := B.map fun b => 1 <<< b.log2
theorem bit_oneN (w b : Nat) : w >>> b &&& 1 = 1 ↔ w.testBit b = true := by
  rw [Nat.and_one_is_mod, Nat.testBit_eq_decide_div_mod_eq, Nat.shiftRight_eq_div_pow, decide_eq_true_iff]
theorem bit_two (w b : Nat) : w >>> b % 2 = 1 ↔ w.testBit b = true := by
  rw [Nat.testBit_eq_decide_div_mod_eq, Nat.shiftRight_eq_div_pow, decide_eq_true_iff]
theorem mem_highs {B : List Nat} {p : Nat} : 1 <<< p ∈ highsOf B ↔ p ∈ logsOf B := by
  constructor
  · intro h
    obtain ⟨b, hb, e⟩ := List.mem_map.mp h
    exact List.mem_map.mpr ⟨b, hb, (Nat.pow_right_inj (Nat.le_refl 2)).mp (by simpa [Nat.one_shiftLeft] using e)⟩
  · intro h
    obtain ⟨b, hb, e⟩ := List.mem_map.mp h
    exact List.mem_map.mpr ⟨b, hb, by rw [e]⟩
theorem conWords_len (B : List Nat) (i : Nat) : (Ow.conWords i B).length ≤ i := by
  unfold Ow.conWords Ow.freeOf
  rw [List.length_map]
  exact Nat.le_trans (List.length_filter_le _ _) (by rw [List.length_range]; exact Nat.le_refl _)
theorem conWords_yes {B : List Nat} {i : Nat} (h : i ∉ logsOf B) : Ow.conWords (i + 1) B = Ow.conWords i B ++ [Ow.conWord B i] := by
  unfold Ow.conWords Ow.freeOf
  rw [List.range_succ, List.filter_append, filt1_yes (p := fun p => decide (p ∉ B.map fun b => b.log2)) (decide_eq_true h), List.map_append]
  rfl
theorem conWords_no {B : List Nat} {i : Nat} (h : i ∈ logsOf B) : Ow.conWords (i + 1) B = Ow.conWords i B := by
  unfold Ow.conWords Ow.freeOf
  rw [List.range_succ, List.filter_append, filt1_no (p := fun p => decide (p ∉ B.map fun b => b.log2)) (decide_eq_false (not_not_intro h)), List.append_nil]
theorem taken_list (B : List Nat) (i : Nat) : ((B.zip (highsOf B)).filter fun bh => bh.1.testBit i).map (fun bh => bh.2) = (B.filter fun b => b.testBit i).map fun b => 1 <<< b.log2 := by
  unfold highsOf
  induction B with
  | nil => rfl
  | cons b B ih =>
    rw [List.map_cons, List.zip_cons_cons, List.filter_cons, List.filter_cons]
    cases hb : b.testBit i
    · rw [if_neg (by simp [hb]), if_neg (by simp)]
      exact ih
    · rw [if_pos (by simp [hb]), if_pos rfl, List.map_cons, List.map_cons, ih]
theorem taken_sum (B : List Nat) (i : Nat) : (((B.zip (highsOf B)).filter fun bh => bh.1.testBit i).map fun bh => bh.2).sum + 1 <<< i = Ow.conWord B i := by
  rw [taken_list]
  unfold Ow.conWord
  simp only [Nat.one_shiftLeft]
theorem cal_contrary_basis (T : Tx K mg) : Cal P w K mg base 4 "contrary_basis" (sp_contrary_basis K) := by
  refine calD (ps := ["places", "basis"]) T.f_contrary_basis (fun _ _ _ _ _ _ us hl => match us, hl with | [_, _], _ => rfl) sc_contrary_basis (fun vs H Q E h => ?_) (fun cdv A outer s H vs Q E hr h => ?_)
  · obtain ⟨a, n, B, rfl, _⟩ := h
    rfl
  · obtain ⟨a, n, B, rfl, hB, hP, hl, hn, q⟩ := h
    have hlen : B.length ≤ 24 := by
      have := Ow.free_length hP hl
      omega
    have hl24 : ∀ b ∈ B, b < 2 ^ 24 := fun b hb => Nat.lt_of_lt_of_le (hl b hb) (Nat.pow_le_pow_right (by decide) hn)
    refine ⟨_, (pss_cons (ps_setLc (i := 2) (own := [("word", 5)]) (by rfl) sc_contrary_basis.nd rfl rfl (sw_true rfl rfl rfl (by decide +kernel)) (pi_tup (pv 1)) (blkOk_by (N := N_contrary_basis) (sc := defScope s_contrary_basis) (by decide +kernel)) (fun _ _ _ _ _ => (pg_name (i := 5) sc_contrary_basis.nd rfl (.inl rfl))) (fun _ _ _ _ _ => pts_nil) (fun _ _ _ _ _ => (pe_op op_shlN pe_int (pe_ix (r := rIxL K) ix_list (pe_c (cal_spots_of T) hr (by decide) (by rfl) (pa_cons (pv 5) pa_nil)) (pe_un un_neg pe_int) (fun _ _ => rfl)))))
      (pss_cons (ps_set (i := 3) sc_contrary_basis.nd rfl (.inl rfl) (pe_lst pa_nil))
      (pss_cons (ps_for PassesOwn.never rfl (pi_range1 rfl T.b_range (pa_cons (pv 0) pa_nil)) (pg_name (i := 4) sc_contrary_basis.nd rfl (.inr rfl))
        (pss_cons (ps_set (i := 5) sc_contrary_basis.nd rfl (.inl rfl) (pe_op op_shlN pe_int (pv 4)))
        (pss_one (ps_if (pt_cmpR op_notInN (pv 5) (pv 2) (by rfl))
          (pss_cons (ps_setLc (i := 6) (own := [("one", 7), ("high", 8)]) (by rfl) sc_contrary_basis.nd rfl rfl (sw_true rfl rfl rfl (by decide +kernel)) (pi_zipM (by rfl) T.b_zip (pa_cons (pv 1) (pa_cons (pv 2) pa_nil))) (blkOk_by (N := N_contrary_basis) (sc := defScope s_contrary_basis) (by decide +kernel)) (fun _ _ _ _ _ => (pg_tupK (K' := K) (n := 2) rfl (by rfl) (pgs_cons (pg_name (i := 7) sc_contrary_basis.nd rfl (.inl rfl)) (pgs_cons (pg_name (i := 8) sc_contrary_basis.nd rfl (.inl rfl)) pgs_nil)))) (fun _ _ _ _ _ => (pts_one (pt_cmpR op_eqN (pe_op op_andN (pe_op op_shrN (pv 7) (pv 4)) pe_int) pe_int (nomark _)))) (fun _ _ _ _ _ => (pv 8)))
          (pss_one (ps_expr (pe_bm PySem.F.plainAttrs_list PySem.F.slot_list_append PySem.F.type_list_append mt_append (pv 3) (pa_cons (pe_op op_addN (pe_callB (cr_sumN rfl) (by rfl) T.b_sum bt_sum (pa_cons (pv 6) pa_nil)) (pv 5)) pa_nil)))))
          pss_nil))))
      (pss_one (ps_ret (pe_c (cal_plain_basis T) hr (by decide) (by rfl) (pa_cons (pv 3) pa_nil))))))), ?_⟩
    refine ⟨_, rfl, a, rfl, ⟨_, hB⟩, fun D hD => lcGT (fun _ => true) (fun b y _ => y = vN (1 <<< b.log2)) hD hB (small (by omega)) pure_stays ?_ ?_⟩
    · intro b H2 Qn Qs hb s _ k1 k2
      obtain ⟨l, el⟩ := Ow.spots_last (hP.ne hb) (hl24 b hb)
      refine ⟨rfl, _, rfl, b, rfl, fun H3 p _ s3 hp => ?_⟩
      refine ⟨_, rfl, _, _, _, _, rfl, rfl, sqL_new hp, (by rw [el, vL_append]; exact atI_last), 1, _, rfl, rfl, ⟨by decide, Nat.le_trans (Nat.le_of_lt ((Nat.log2_lt (hP.ne hb)).mpr (hl24 b hb))) (by decide)⟩, ?_⟩
      exact k1 rfl _ _ s3 rfl
    · intro H2 ys s1 hy pr
      have ey := Paired.eq_map pr
      rw [List.filter_eq_self.mpr fun _ _ => rfl] at ey
      subst ey
      have hh : H2 D = some (.lst (vL (highsOf B))) := by rw [hy, vL_map]
      refine ⟨Nat.zero_le _, fun f hf => ?_⟩
      refine ⟨_, rfl, _, rfl, by omega, by omega, ?_⟩
      rw [Int.toNat_natCast]
      refine for_range (fun i σ H' => Same H2 H' ∧ H' f = some (.lst (vL (Ow.conWords i B))) ∧ ∃ y1 y2 y3, σ = [some (vN n), some (.ref a), some (.ref D), some (.ref f), y1, y2, y3, none, none]) ?_ ?_ ?_
      · exact ⟨same_upd hf, upd_same, none, none, none, rfl⟩
      · rintro i σ H3 hi ⟨s3, h3, y1, y2, y3, rfl⟩
        rw [Int.zero_add]
        refine ⟨_, rfl, 1, _, rfl, rfl, ⟨by decide, by omega⟩, ?_⟩
        refine ⟨_, rfl, _, rfl, _, D, _, rfl, rfl, .inl (sqL_new (s3 _ _ hh)), _, rfl, ?_⟩
        have edec : decide (1 <<< i ∈ highsOf B) = decide (i ∈ logsOf B) := dec_iff mem_highs
        refine ite2 (fun e => ?_) fun e => ?_
        · have hni : i ∉ logsOf B := by
            have e2 : (!decide (1 <<< i ∈ highsOf B)) = true := e
            rw [edec] at e2
            simpa using e2
          refine ⟨_, rfl, _, rfl, a, D, _, _, rfl, (s1.trans s3).tup hB, sqL_new (s3 _ _ hh), fun D2 hD2 => ?_⟩
          have hlz : (B.zip (highsOf B)).length = min (vL B).length (vL (highsOf B)).length := by rw [List.length_zip, vL_length, vL_length]
          refine lcGW (walk_zipM rfl) (B.zip (highsOf B)) (fun bh => bh.1.testBit i) (fun bh y _ => y = vN bh.2) hlz hD2 (fun H sH => ⟨(sH.tup ((s1.trans s3).tup hB)), sqL_new (sH _ _ (s3 _ _ hh))⟩) (small (by rw [List.length_zip]; omega)) pure_stays ?_ ?_
          · rintro k bh x H4 H5 Qn Qs hb s4 ⟨T5, x1, x2, rfl, hT, rfl, ex1, ex2⟩ acc k1 k2
            obtain ⟨g1, g2⟩ := List.getElem?_zip_eq_some.mp hb
            have e1 : x1 = vN bh.1 := vL_some g1 ex1
            have e2 : x2 = vN bh.2 := vL_some g2 ex2
            subst e1 e2
            refine ⟨_, _, rfl, sqT_new upd_same, rfl, _, _, rfl, _, _, rfl, rfl, rfl, ?_⟩
            refine ⟨_, rfl, _, rfl, _, _, rfl, rfl, _, 1, rfl, rfl, _, 1, rfl, rfl, _, rfl, ite2 (fun e => ?_) fun e => ?_⟩
            · exact ⟨_, rfl, k1 ((bit_oneN _ i).mp (of_decide_eq_true e)) _ _ (same_upd hT) rfl⟩
            · exact k2 (Bool.not_eq_true _ ▸ fun z => e (decide_eq_true ((bit_oneN _ i).mpr z))) _ (same_upd hT)
          · intro H4 ys s4 hy pr
            have ey := Paired.eq_map pr
            subst ey
            have hsum : SqL K H4 D2 (vL (((B.zip (highsOf B)).filter fun bh => bh.1.testBit i).map fun bh => bh.2)) := sqL_new (by rw [hy, vL_map])
            have hlf := conWords_len B i
            refine ⟨_, rfl, ?_, _, rfl, D2, _, rfl, hsum, _, rfl, _, _, rfl, rfl, f, _, _, rfl, rfl, s4 _ _ h3, small (by rw [vL_length]; omega), ?_⟩
            · exact .inl ⟨rfl, _, sqL_new (s4 _ _ h3)⟩
            · refine ⟨same_updF hf (s3.trans s4), ?_, _, _, _, rfl⟩
              rw [upd_same, conWords_yes hni, vL_append]
              show some (HO.lst (_ ++ [vN (_ + _)])) = _
              rw [taken_sum]
              rfl
        · have hni : i ∈ logsOf B := by
            have e2 : ¬ (!decide (1 <<< i ∈ highsOf B)) = true := e
            rw [edec] at e2
            simpa using e2
          refine ⟨s3, ?_, _, _, _, rfl⟩
          rw [conWords_no hni]
          exact h3
      · rintro σ H3 ⟨s3, h3, y1, y2, y3, rfl⟩
        exact ⟨_, rfl, f, _, rfl, sqL_new h3, Nat.le_trans (conWords_len B n) (by omega), fun H4 p s4 hp => q H4 p ((s1.trans s3).trans s4) hp⟩
abbrev N_odd_two : List Str := ["basis", "at", "word", "other"]
theorem sc_odd_two : FnScope N_odd_two ["basis"] (defScope s_odd_two) := ⟨rfl, rfl, rfl, by decide +kernel, rfl, by decide +kernel, by decide +kernel⟩
def sp_odd_two (K : PySem.W.Frag) : Sp := fun vs H Q _ => ∃ (a : Addr) (B : List Nat), vs = [.ref a] ∧ SqT K H a (vL B) ∧ Ow.Still B ∧ (∀ b ∈ B, b < 2 ^ 24) ∧ B.length ≤ 100 ∧ ∀ H', Same H H' → Q .non H'
theorem cal_odd_two (T : Tx K mg) : Cal P w K mg base 3 "odd_two" (sp_odd_two K) := by
  refine calD (ps := ["basis"]) T.f_odd_two (fun _ _ _ _ _ _ us hl => match us, hl with | [_], _ => rfl) sc_odd_two (fun vs H Q E h => ?_) (fun cdv A outer s H vs Q E hr h => ?_)
  · obtain ⟨a, B, rfl, _⟩ := h
    rfl
  · obtain ⟨a, B, rfl, hB, hS, hl, hlen, q⟩ := h
    refine ⟨_, (pss_cons (ps_for PassesOwn.never rfl (pi_enumT (by rfl) T.b_enumerate (pa_cons (pv 0) pa_nil)) (pg_tup (by rfl) (pgs_cons (pg_name (i := 1) sc_odd_two.nd rfl (.inl rfl)) (pgs_cons (pg_name (i := 2) sc_odd_two.nd rfl (.inl rfl)) pgs_nil)))
        (pss_one (ps_for PassesOwn.never rfl (pi_tup (pe_slice sl_tupA (pv 0) po_none (po_some (pe_op op_addN (pv 1) pe_int)))) (pg_name (i := 3) sc_odd_two.nd rfl (.inl rfl))
          (pss_one (ps_if (pt_val (pe_c (cal_is_odd T) hr (by decide) (by rfl) (pa_cons (pe_op op_andN (pv 2) (pv 3)) pa_nil)))
            (pss_one (ps_ret (pe_tup (pa_cons (pv 3) (pa_cons (pv 2) pa_nil)))))
            pss_nil)))))
      (pss_one (ps_ret pe_non))), ?_⟩
    refine ⟨_, rfl, a, _, rfl, hB, ?_⟩
    refine for_it walk_enumT (fun i σ H' => Same H H' ∧ ∃ y1 y2 y3, σ = [some (.ref a), y1, y2, y3]) ⟨Same.refl _, _, _, _, rfl⟩ (fun i σ H' _ h => h.1.tup hB) ?_ ?_
    · rintro i x σ H1 H2 hi ⟨s1, y1, y2, y3, rfl⟩ ⟨T1, x1, x2, rfl, hT, rfl, ex1, ex2⟩
      obtain ⟨b, hb, rfl⟩ := vL_get ex2
      have e1 : x1 = vN i := (Option.some.inj ex1).symm
      subst e1
      refine ⟨_, _, rfl, sqT_new upd_same, rfl, _, _, rfl, _, _, rfl, rfl, ?_⟩
      have s2 : Same H (upd H1 T1 (.tup [vN i, vN b])) := s1.trans (same_upd hT)
      refine ⟨_, rfl, _, rfl, _, 1, rfl, rfl, _, rfl, a, _, rfl, s2.tup hB, fun _ => ?_, fun _ p hp => ?_⟩
      · have s3 := s2
        have hC : SqT K _ a (vL B) := s2.tup hB
        have hCB : ∀ c ∈ B, c ∈ B := fun c h => h
        have keep : ∀ H', Same H H' → SqT K H' a (vL B) := fun H' s => s.tup hB
        refine ⟨a, rfl, ⟨_, hC⟩, for_tup (K := K) (a := a) (xs := vL B) (fun j σ H' => Same H H' ∧ ∃ z, σ = [some (.ref a), some (vN i), some (vN b), z]) ⟨s3, _, rfl⟩ (fun j σ H' _ h => keep _ h.1) ?_ ?_⟩
        · rintro j x σ H4 hx ⟨s4, z, rfl⟩
          obtain ⟨c, hc, rfl⟩ := vL_get hx
          have hcB : c ∈ B := hCB c (List.mem_of_getElem? hc)
          have hbB : b ∈ B := List.mem_of_getElem? hb
          refine ⟨_, rfl, _, rfl, _, _, rfl, rfl, _, rfl, Nat.lt_of_le_of_lt Nat.and_le_left (hl b hbB), ?_⟩
          refine ⟨_, rfl, ite2 (fun e => ?_) fun e => ?_⟩
          · have := of_decide_eq_true e
            have h2 := hS b hbB c hcB
            unfold Ow.ev at h2
            omega
          · exact ⟨s4, _, rfl⟩
        · rintro σ H4 ⟨s4, z, rfl⟩
          exact ⟨s4, _, _, _, rfl⟩
      · obtain ⟨C, eC, hCB⟩ : ∃ C : List Nat, cutV (vL B) none (some ((i + 1 : Nat) : Int)) = vL C ∧ ∀ c ∈ C, c ∈ B := by
          refine ⟨B.take (HT.sIx (vL B).length (vL B).length (some ((i + 1 : Nat) : Int))), ?_, fun c hc => List.mem_of_mem_take hc⟩
          unfold cutV
          rw [HT.sIx_none, List.drop_zero, Nat.sub_zero]
          exact List.map_take.symm
        obtain ⟨H3, eH⟩ : ∃ H3, H3 = upd (upd H1 T1 (.tup [vN i, vN b])) p (.tup (cutV (vL B) none (some ((i + 1 : Nat) : Int)))) := ⟨_, rfl⟩
        have hC : H3 p = some (.tup (vL C)) := by rw [eH, upd_same, eC]
        have s3 : Same H H3 := by rw [eH]; exact s2.trans (same_upd hp)
        refine ⟨p, rfl, ⟨vL C, sqT_new (eH ▸ hC)⟩, for_tup (K := K) (a := p) (xs := vL C) (fun j σ H' => Same H3 H' ∧ ∃ z, σ = [some (.ref a), some (vN i), some (vN b), z]) ⟨by rw [eH]; exact Same.refl _, _, rfl⟩ (fun j σ H' _ h => sqT_new (h.1 _ _ hC)) ?_ ?_⟩
        · rintro j x σ H4 hx ⟨s4, z, rfl⟩
          obtain ⟨c, hc, rfl⟩ := vL_get hx
          have hcB : c ∈ B := hCB c (List.mem_of_getElem? hc)
          have hbB : b ∈ B := List.mem_of_getElem? hb
          refine ⟨_, rfl, _, rfl, _, _, rfl, rfl, _, rfl, Nat.lt_of_le_of_lt Nat.and_le_left (hl b hbB), ?_⟩
          refine ⟨_, rfl, ite2 (fun e => ?_) fun e => ?_⟩
          · have := of_decide_eq_true e
            have h2 := hS b hbB c hcB
            unfold Ow.ev at h2
            omega
          · exact ⟨s4, _, rfl⟩
        · rintro σ H4 ⟨s4, z, rfl⟩
          exact ⟨s3.trans s4, _, _, _, rfl⟩
    · rintro σ H1 ⟨s1, y1, y2, y3, rfl⟩
      exact q _ s1
end
end Oc
set_option Elab.async false
set_option linter.all false
set_option maxRecDepth 100000
set_option maxHeartbeats 4000000
namespace Oc
open PySem PySem.Spec PyProof.Rows L2
section
variable {P : Program} {w : World} {K : PySem.W.Frag} {mg : Str → Option Value} {base : Heap}
abbrev N_are_still : List Str := ["basis"]
theorem sc_are_still : FnScope N_are_still ["basis"] (defScope s_are_still) := ⟨rfl, rfl, rfl, by decide +kernel, rfl, by decide +kernel, by decide +kernel⟩
def sp_are_still (K : PySem.W.Frag) : Sp := fun vs H Q _ => ∃ (a : Addr) (B : List Nat), vs = [.ref a] ∧ SqT K H a (vL B) ∧ Ow.Still B ∧ (∀ b ∈ B, b < 2 ^ 24) ∧ B.length ≤ 100 ∧ ∀ H', Same H H' → Q (.bl true) H'
theorem cal_are_still (T : Tx K mg) : Cal P w K mg base 4 "are_still" (sp_are_still K) := by
  refine calD (ps := ["basis"]) T.f_are_still (fun _ _ _ _ _ _ us hl => match us, hl with | [_], _ => rfl) sc_are_still (fun vs H Q E h => ?_) (fun cdv A outer s H vs Q E hr h => ?_)
  · obtain ⟨a, B, rfl, _⟩ := h
    rfl
  · obtain ⟨a, B, rfl, hB, hS, hl, hlen, q⟩ := h
    refine ⟨_, (pss_one (ps_ret (pe_cmpR op_isN (pe_c (cal_odd_two T) hr (by decide) (by rfl) (pa_cons (pv 0) pa_nil)) pe_non (nomark _)))), ?_⟩
    exact ⟨_, rfl, a, B, rfl, hB, hS, hl, hlen, fun H' s => ⟨rfl, q H' s⟩⟩
abbrev N_missing_word : List Str := ["places", "basis", "word"]
theorem sc_missing_word : FnScope N_missing_word ["places", "basis"] (defScope s_missing_word) := ⟨rfl, rfl, rfl, by decide +kernel, rfl, by decide +kernel, by decide +kernel⟩
def sp_missing_word (K : PySem.W.Frag) : Sp := fun vs H Q _ => ∃ (a : Addr) (n : Nat) (B : List Nat) (w : Nat), vs = [vN n, .ref a] ∧ SqT K H a (vL B) ∧ Ow.Plain B ∧ (∀ b ∈ B, b < 2 ^ n) ∧ n ≤ 24 ∧ Ow.missingWord n B = some w ∧ ∀ H', Same H H' → Q (vN w) H'
theorem cal_missing_word (T : Tx K mg) : Cal P w K mg base 5 "missing_word" (sp_missing_word K) := by
  refine calD (ps := ["places", "basis"]) T.f_missing_word (fun _ _ _ _ _ _ us hl => match us, hl with | [_, _], _ => rfl) sc_missing_word (fun vs H Q E h => ?_) (fun cdv A outer s H vs Q E hr h => ?_)
  · obtain ⟨a, n, B, w, rfl, _⟩ := h
    rfl
  · obtain ⟨a, n, B, w, rfl, hB, hP, hl, hn, hm, q⟩ := h
    refine ⟨_, (pss_cons (ps_for PassesOwn.never rfl (pi_tup (pe_c (cal_contrary_basis T) hr (by decide) (by rfl) (pa_cons (pv 0) (pa_cons (pv 1) pa_nil)))) (pg_name (i := 2) sc_missing_word.nd rfl (.inl rfl))
        (pss_one (ps_if (pt_cmpR op_neN (pe_c (cal_left_of T) hr (by decide) (by rfl) (pa_cons (pv 1) (pa_cons (pv 2) pa_nil))) pe_int (nomark _))
          (pss_one (ps_ret (pv 2)))
          pss_nil)))
      (pss_one (ps_ret pe_non))), ?_⟩
    refine ⟨_, rfl, _, rfl, a, n, B, rfl, hB, hP, hl, hn, fun H1 p s1 hp => ?_⟩
    refine ⟨p, rfl, ⟨_, hp⟩, for_tup (K := K) (a := p) (xs := vL (Ow.contraryBasis n B)) (fun i σ H' => Same H1 H' ∧ (∃ z, σ = [some (vN n), some (.ref a), z]) ∧ ((Ow.contraryBasis n B).take i).find? (fun w => Ow.leftOf B w != 0) = none) ⟨Same.refl _, ⟨_, rfl⟩, rfl⟩ (fun i σ H' _ h => h.1.tup hp) ?_ ?_⟩
    · rintro i x σ H2 hx ⟨s2, ⟨z, rfl⟩, hf⟩
      obtain ⟨c, hc, rfl⟩ := vL_get hx
      refine ⟨_, rfl, _, rfl, a, B, c, rfl, (s1.trans s2).tup hB, ?_⟩
      refine ⟨_, 0, rfl, rfl, _, rfl, ite2 (fun e => ?_) fun e => ?_⟩
      · have e0 : Ow.leftOf B c ≠ 0 := by simpa using e
        have ew : w = c := by
          unfold Ow.missingWord at hm
          have e3 : Ow.contraryBasis n B = (Ow.contraryBasis n B).take i ++ (Ow.contraryBasis n B).drop i := (List.take_append_drop i _).symm
          have e4 : (Ow.contraryBasis n B).drop i = c :: (Ow.contraryBasis n B).drop (i + 1) := by
            have hi := (List.getElem?_eq_some_iff.mp hc)
            obtain ⟨h1, h2⟩ := hi
            rw [List.drop_eq_getElem_cons h1, h2]
          rw [e3, List.find?_append, hf, e4, List.find?_cons] at hm
          have e5 : (Ow.leftOf B c != 0) = true := by simp [e0]
          rw [e5] at hm
          exact (Option.some.inj hm).symm
        subst ew
        exact ⟨_, rfl, q H2 (s1.trans s2)⟩
      · have e0 : Ow.leftOf B c = 0 := by simpa using e
        refine ⟨s2, ⟨_, rfl⟩, ?_⟩
        rw [take_succ hc, List.find?_append, hf]
        simp [e0]
    · rintro σ H2 ⟨s2, ⟨z, rfl⟩, hf⟩
      rw [vL_length, List.take_length] at hf
      unfold Ow.missingWord at hm
      rw [hm] at hf
      cases hf
abbrev N_is_own_room : List Str := ["room"]
theorem sc_is_own_room : FnScope N_is_own_room ["room"] (defScope s_is_own_room) := ⟨rfl, rfl, rfl, by decide +kernel, rfl, by decide +kernel, by decide +kernel⟩
def sp_is_own (K : PySem.W.Frag) : Sp := fun vs H Q _ => ∃ (a : Addr) (n : Nat) (B : List Nat), vs = [.ref a] ∧ RoomAt K H a n B ∧ Ow.Own n B ∧ n ≤ 24 ∧ ∀ H', Same H H' → Q (.bl true) H'
theorem cal_is_own_room (T : Tx K mg) : Cal P w K mg base 5 "is_own_room" (sp_is_own K) := by
  refine calD (ps := ["room"]) T.f_is_own_room (fun _ _ _ _ _ _ us hl => match us, hl with | [_], _ => rfl) sc_is_own_room (fun vs H Q E h => ?_) (fun cdv A outer s H vs Q E hr h => ?_)
  · obtain ⟨a, n, B, rfl, _⟩ := h
    rfl
  · obtain ⟨a, n, B, rfl, ⟨dx, b, ha, hb⟩, ho, hn, q⟩ := h
    refine ⟨_, (pss_one (ps_ret (pe_and (pe_cmpR op_eqN (pe_op op_mulN pe_int (pe_callB call_len_seq (by rfl) T.b_len bt_len (pa_cons (pe_fld (pv 0) rfl) pa_nil))) (pe_fld (pv 0) rfl) (nomark _)) (pe_one (pe_c (cal_are_still T) hr (by decide) (by rfl) (pa_cons (pe_fld (pv 0) rfl) pa_nil)))))), ?_⟩
    have h2 := ho.half
    refine ⟨_, rfl, a, _, _, _, _, rfl, ha, T.cl_Room, T.no_own_basis, lk4 n b, b, _, rfl, .inr hb, 2, B.length, rfl, (by rw [vL_length]), .inl (by decide), ?_⟩
    refine ⟨_, rfl, a, _, _, _, _, rfl, ha, T.cl_Room, T.no_own_places, lk3 n b, _, _, rfl, rfl, _, rfl, ?_⟩
    refine ite2 (fun e => ?_) fun e => ?_
    · exact ⟨_, rfl, a, _, _, _, _, rfl, ha, T.cl_Room, T.no_own_basis, lk4 n b, b, B, rfl, hb, ho.still, fun c hc => Nat.lt_of_lt_of_le (ho.lt c hc) (Nat.pow_le_pow_right (by decide) hn), by omega, q⟩
    · exact absurd (decide_eq_true h2) e
abbrev N_is_own : List Str := ["room"]
theorem sc_is_own : FnScope N_is_own ["room"] (defScope s_is_own) := ⟨rfl, rfl, rfl, by decide +kernel, rfl, by decide +kernel, by decide +kernel⟩
theorem cal_is_own (T : Tx K mg) : Cal P w K mg base 6 "is_own" (sp_is_own K) := by
  refine calD (ps := ["room"]) T.f_is_own (fun _ _ _ _ _ _ us hl => match us, hl with | [_], _ => rfl) sc_is_own (fun vs H Q E h => ?_) (fun cdv A outer s H vs Q E hr h => ?_)
  · obtain ⟨a, n, B, rfl, _⟩ := h
    rfl
  · obtain ⟨a, n, B, rfl, hR, ho, hn, q⟩ := h
    refine ⟨_, (pss_cons (ps_expr (pe_c (cal_want_room T) hr (by decide) (by rfl) (pa_cons (pv 0) pa_nil)))
      (pss_one (ps_ret (pe_c (cal_is_own_room T) hr (by decide) (by rfl) (pa_cons (pv 0) pa_nil))))), ?_⟩
    exact ⟨_, rfl, a, n, B, rfl, hR, _, rfl, a, n, B, rfl, hR, ho, hn, q⟩
abbrev N_want_still : List Str := ["value"]
theorem sc_want_still : FnScope N_want_still ["value"] (defScope s_want_still) := ⟨rfl, rfl, rfl, by decide +kernel, rfl, by decide +kernel, by decide +kernel⟩
def sp_want_still (K : PySem.W.Frag) : Sp := fun vs H Q _ => ∃ (a : Addr) (n : Nat) (B : List Nat), vs = [.ref a] ∧ RoomAt K H a n B ∧ Ow.Still B ∧ (∀ b ∈ B, b < 2 ^ 24) ∧ B.length ≤ 100 ∧ ∀ H', Same H H' → Q .non H'
theorem cal_want_still (T : Tx K mg) : Cal P w K mg base 5 "want_still" (sp_want_still K) := by
  refine calD (ps := ["value"]) T.f_want_still (fun _ _ _ _ _ _ us hl => match us, hl with | [_], _ => rfl) sc_want_still (fun vs H Q E h => ?_) (fun cdv A outer s H vs Q E hr h => ?_)
  · obtain ⟨a, n, B, rfl, _⟩ := h
    rfl
  · obtain ⟨a, n, B, rfl, hR, hS, hl, hlen, q⟩ := h
    obtain ⟨dx, b, ha, hb⟩ := hR
    refine ⟨_, (pss_cons (ps_expr (pe_c (cal_want_room T) hr (by decide) (by rfl) (pa_cons (pv 0) pa_nil)))
      (pss_one (ps_if (pt_not (pt_val (pe_c (cal_are_still T) hr (by decide) (by rfl) (pa_cons (pe_fld (pv 0) rfl) pa_nil))))
        (pss_one ps_never)
        pss_nil))), ?_⟩
    refine ⟨_, rfl, a, n, B, rfl, ⟨dx, b, ha, hb⟩, ?_⟩
    exact ⟨_, rfl, a, _, _, _, _, rfl, ha, T.cl_Room, T.no_own_basis, lk4 n b, b, B, rfl, hb, hS, hl, hlen, fun H' s => ⟨_, rfl, q H' s⟩⟩
abbrev N_want_alike : List Str := ["room", "other"]
theorem sc_want_alike : FnScope N_want_alike ["room", "other"] (defScope s_want_alike) := ⟨rfl, rfl, rfl, by decide +kernel, rfl, by decide +kernel, by decide +kernel⟩
def sp_want_alike (K : PySem.W.Frag) : Sp := fun vs H Q _ => ∃ (a b : Addr) (n : Nat) (B C : List Nat), vs = [.ref a, .ref b] ∧ RoomAt K H a n B ∧ RoomAt K H b n C ∧ Q .non H
theorem cal_want_alike (T : Tx K mg) : Cal P w K mg base 2 "want_alike" (sp_want_alike K) := by
  refine calD (ps := ["room", "other"]) T.f_want_alike (fun _ _ _ _ _ _ us hl => match us, hl with | [_, _], _ => rfl) sc_want_alike (fun vs H Q E h => ?_) (fun cdv A outer s H vs Q E hr h => ?_)
  · obtain ⟨a, b, n, B, C, rfl, _⟩ := h
    rfl
  · obtain ⟨a, b, n, B, C, rfl, hA, hB, q⟩ := h
    refine ⟨_, (pss_cons (ps_expr (pe_c (cal_want_room T) hr (by decide) (by rfl) (pa_cons (pv 0) pa_nil)))
      (pss_cons (ps_expr (pe_c (cal_want_room T) hr (by decide) (by rfl) (pa_cons (pv 1) pa_nil)))
      (pss_one (ps_if (pt_cmpR op_neN (pe_fld (pv 0) rfl) (pe_fld (pv 1) rfl) (nomark _))
        (pss_one ps_never)
        pss_nil)))), ?_⟩
    have hA' := hA
    have hB' := hB
    obtain ⟨dx, b1, ha, hb⟩ := hA
    obtain ⟨dx2, b2, ha2, hb2⟩ := hB
    refine ⟨_, rfl, a, n, B, rfl, hA', ?_⟩
    refine ⟨_, rfl, b, n, C, rfl, hB', ?_⟩
    refine ⟨_, rfl, a, _, _, _, _, rfl, ha, T.cl_Room, T.no_own_places, lk3 n b1, _, rfl, b, _, _, _, _, rfl, ha2, T.cl_Room, T.no_own_places, lk3 n b2, _, _, rfl, rfl, _, rfl, ite2 (fun e => ?_) fun e => ?_⟩
    · simp at e
    · exact q
abbrev N_below : List Str := ["basis", "places", "word"]
theorem sc_below : FnScope N_below ["basis", "places"] (defScope s_below) := ⟨rfl, rfl, rfl, by decide +kernel, rfl, by decide +kernel, by decide +kernel⟩
def sp_below (K : PySem.W.Frag) : Sp := fun vs H Q _ => ∃ (a : Addr) (n : Nat) (B : List Nat), vs = [.ref a, vN n] ∧ SqT K H a (vL B) ∧ B.length ≤ 100 ∧
  ∀ (H' : Hp) (p : Addr), Same H H' → SqT K H' p (vL (B.filter fun w => w >>> n == 0)) → Q (.ref p) H'
theorem cal_below (T : Tx K mg) : Cal P w K mg base 1 "below" (sp_below K) := by
  refine calD (ps := ["basis", "places"]) T.f_below (fun _ _ _ _ _ _ us hl => match us, hl with | [_, _], _ => rfl) sc_below (fun vs H Q E h => ?_) (fun cdv A outer s H vs Q E hr h => ?_)
  · obtain ⟨a, n, B, rfl, _⟩ := h
    rfl
  · obtain ⟨a, n, B, rfl, hB, hlen, q⟩ := h
    refine ⟨_, (pss_one (ps_ret (pe_callTy call_tuple_of (by rfl) T.b_tuple bt_tuple (pa_cons (pe_lc (own := [("word", 2)]) (by rfl) sc_below.nd (pi_tup (pv 0)) (blkOk_by (N := N_below) (sc := defScope s_below) (by decide +kernel)) (fun _ _ _ _ _ => (pg_name (i := 2) sc_below.nd rfl (.inl rfl))) (fun _ _ _ _ _ => (pts_one (pt_cmpR op_eqN (pe_op op_shrN (pv 2) (pv 1)) pe_int (nomark _)))) (fun _ _ _ _ _ => (pv 2))) pa_nil)))), ?_⟩
    refine ⟨_, rfl, a, rfl, ⟨_, hB⟩, fun D hD => lcGT (fun w => w >>> n == 0) (fun b y _ => y = vN b) hD hB (small (by omega)) pure_stays ?_ ?_⟩
    · intro b H2 Qn Qs hb s _ k1 k2
      refine ⟨rfl, _, rfl, _, rfl, _, _, rfl, rfl, _, 0, rfl, rfl, _, rfl, ite2 (fun e => ?_) fun e => ?_⟩
      · exact ⟨_, rfl, k1 (by simpa using e) _ _ (Same.refl _) rfl⟩
      · exact k2 (by simpa using e) _ (Same.refl _)
    · intro H2 ys s1 hy pr
      have ey := Paired.eq_map pr
      subst ey
      refine ⟨_, _, rfl, .inl ⟨sqL_new hy, fun l hl => ?_⟩⟩
      exact q _ l (s1.trans (same_upd hl)) (sqT_new upd_same)
abbrev N_shortened_basis : List Str := ["basis", "word", "places", "off", "one"]
theorem sc_shortened_basis : FnScope N_shortened_basis ["basis", "word", "places"] (defScope s_shortened_basis) := ⟨rfl, rfl, rfl, by decide +kernel, rfl, by decide +kernel, by decide +kernel⟩
def sp_shortened_basis (K : PySem.W.Frag) : Sp := fun vs H Q _ => ∃ (a : Addr) (n x : Nat) (B : List Nat), vs = [.ref a, vN x, vN n] ∧ SqT K H a (vL B) ∧ B.length ≤ 100 ∧ (∀ b ∈ B, b < 2 ^ 24) ∧ n ≤ 24 ∧
  ∀ (H' : Hp) (p : Addr), Same H H' → SqT K H' p (vL (Ow.shortB B x n)) → Q (.ref p) H'
theorem cal_shortened_basis (T : Tx K mg) : Cal P w K mg base 4 "shortened_basis" (sp_shortened_basis K) := by
  refine calD (ps := ["basis", "word", "places"]) T.f_shortened_basis (fun _ _ _ _ _ _ us hl => match us, hl with | [_, _, _], _ => rfl) sc_shortened_basis (fun vs H Q E h => ?_) (fun cdv A outer s H vs Q E hr h => ?_)
  · obtain ⟨a, n, x, B, rfl, _⟩ := h
    rfl
  · obtain ⟨a, n, x, B, rfl, hB, hlen, hl, hn, q⟩ := h
    refine ⟨_, (pss_cons (ps_set (i := 3) sc_shortened_basis.nd rfl (.inr rfl) (pe_op op_xorN (pe_c (cal_all_on T) hr (by decide) (by rfl) (pa_cons (pv 2) pa_nil)) (pv 1)))
      (pss_one (ps_ret (pe_c (cal_below T) hr (by decide) (by rfl) (pa_cons (pe_c (cal_plain_basis T) hr (by decide) (by rfl) (pa_cons (pe_lc (own := [("one", 4)]) (by rfl) sc_shortened_basis.nd (pi_tup (pv 0)) (blkOk_by (N := N_shortened_basis) (sc := defScope s_shortened_basis) (by decide +kernel)) (fun _ _ _ _ _ => (pg_name (i := 4) sc_shortened_basis.nd rfl (.inl rfl))) (fun _ _ _ _ _ => pts_nil) (fun _ _ _ _ _ => (pe_op op_addN (pe_op op_shlN (pe_op op_andN (pv 4) (pv 3)) (pv 2)) (pv 4)))) pa_nil)) (pa_cons (pv 2) pa_nil)))))), ?_⟩
    refine ⟨_, rfl, n, rfl, by omega, _, rfl, _, _, rfl, rfl, ?_⟩
    refine ⟨_, rfl, a, rfl, ⟨_, hB⟩, fun D hD => lcGT (fun _ => true) (fun b y _ => y = vN (Ow.shortD n ((2 ^ n - 1) ^^^ x) b)) hD hB (small (by omega)) pure_stays ?_ ?_⟩
    · intro b H2 Qn Qs hb s _ k1 k2
      refine ⟨rfl, _, rfl, _, rfl, _, _, rfl, rfl, _, rfl, _, _, rfl, rfl, ⟨Nat.lt_of_le_of_lt Nat.and_le_left (Nat.lt_trans (hl b hb) (by decide)), by omega⟩, _, rfl, _, _, rfl, rfl, ?_⟩
      exact k1 rfl _ _ (Same.refl _) rfl
    · intro H2 ys s1 hy pr
      have ey := Paired.eq_map pr
      rw [List.filter_eq_self.mpr fun _ _ => rfl] at ey
      subst ey
      refine ⟨D, B.map (Ow.shortD n ((2 ^ n - 1) ^^^ x)), rfl, sqL_new (by rw [hy, vL_map]), by rw [List.length_map]; omega, fun H3 p s3 hp => ?_⟩
      refine ⟨_, rfl, p, n, _, rfl, hp, Nat.le_trans (Ow.plainBasis_length_le _) (by rw [List.length_map]; omega), fun H4 p2 s4 hp2 => ?_⟩
      exact q H4 p2 ((s1.trans s3).trans s4) hp2
end
end Oc
set_option Elab.async false
set_option linter.all false
set_option maxRecDepth 100000
set_option maxHeartbeats 4000000
namespace Ow
theorem maskStep_len (w : Nat) : ∀ (l : List Nat) (pa : Nat × List Nat), (l.foldl (maskStep w) pa).2.length ≤ pa.2.length + l.length
  | [], pa => Nat.le_refl _
  | m :: l, pa => by
    have h := maskStep_len w l (maskStep w pa m)
    have e : (maskStep w pa m).2.length ≤ pa.2.length + 1 := by
      unfold maskStep
      split
      · show (pa.2 ++ [m]).length ≤ _
        rw [List.length_append]
        exact Nat.le_refl _
      · show pa.2.length ≤ _
        omega
    rw [List.foldl_cons, List.length_cons]
    omega
theorem maskWord_len (f : List Nat) (w : Nat) : (maskWord f w).length ≤ f.length + 1 := by
  unfold maskWord
  have := maskStep_len w f (w, [])
  simp at *
  omega
theorem masksOf_snoc (l : List Nat) (w : Nat) : masksOf (l ++ [w]) = maskWord (masksOf l) w := by
  unfold masksOf
  rw [List.foldl_append]
  rfl
theorem masksOf_len (l : List Nat) : (masksOf l).length ≤ l.length := by
  have key : ∀ (l f : List Nat), (l.foldl maskWord f).length ≤ f.length + l.length := by
    intro l
    induction l with
    | nil => intro f; exact Nat.le_refl _
    | cons w l ih =>
      intro f
      have h1 := ih (maskWord f w)
      have h2 := maskWord_len f w
      rw [List.foldl_cons, List.length_cons]
      omega
  have := key l []
  rw [List.length_nil, Nat.zero_add] at this
  exact this
end Ow
namespace Oc
open PySem PySem.Spec PyProof.Rows L2
theorem none_of_same {H H' : Hp} {a : Addr} (s : Same H H') (h : H' a = none) : H a = none := by
  cases e : H a with
  | none => rfl
  | some o => rw [s _ _ e] at h; cases h
section
variable {P : Program} {w : World} {K : PySem.W.Frag} {mg : Str → Option Value} {base : Heap}
abbrev N_masks_of : List Str := ["basis", "found", "word", "part", "apart", "mask"]
theorem sc_masks_of : FnScope N_masks_of ["basis"] (defScope s_masks_of) := ⟨rfl, rfl, rfl, by decide +kernel, rfl, by decide +kernel, by decide +kernel⟩
def sp_masks_of (K : PySem.W.Frag) : Sp := fun vs H Q _ => ∃ (a : Addr) (ws : List Nat), vs = [.ref a] ∧ SqT K H a (vL ws) ∧ ws.length ≤ 100 ∧ ∀ (H' : Hp) (p : Addr), Same H H' → H' p = some (.lst (vL (Ow.masksOf ws))) → Q (.ref p) H'
theorem cal_masks_of (T : Tx K mg) : Cal P w K mg base 1 "masks_of" (sp_masks_of K) := by
  refine calD (ps := ["basis"]) T.f_masks_of (fun _ _ _ _ _ _ us hl => match us, hl with | [_], _ => rfl) sc_masks_of (fun vs H Q E h => ?_) (fun cdv A outer s H vs Q E hr h => ?_)
  · obtain ⟨a, B, rfl, _⟩ := h
    rfl
  · obtain ⟨a, ws, rfl, hS, hlen, q⟩ := h
    refine ⟨_, (pss_cons (ps_set (i := 1) sc_masks_of.nd rfl (.inl rfl) (pe_lst pa_nil))
      (pss_cons (ps_for PassesOwn.never rfl (pi_tup (pv 0)) (pg_name (i := 2) sc_masks_of.nd rfl (.inl rfl))
        (pss_cons (ps_par (i := 3) (j := 4) (by rfl) sc_masks_of.nd rfl rfl (by decide) rfl rfl (pa_cons (pv 2) (pa_cons (pe_lst pa_nil) pa_nil)) (by rfl))
        (pss_cons (ps_for PassesOwn.never rfl (pi_list (pv 1)) (pg_name (i := 5) sc_masks_of.nd rfl (.inl rfl))
          (pss_one (ps_if (pt_cmpR op_eqN (pe_op op_andN (pv 5) (pv 2)) pe_int (nomark _))
            (pss_one (ps_expr (pe_bm PySem.F.plainAttrs_list PySem.F.slot_list_append PySem.F.type_list_append mt_append (pv 4) (pa_cons (pv 5) pa_nil))))
            (pss_one (ps_set (i := 3) sc_masks_of.nd rfl (.inl rfl) (pe_op op_orN (pv 3) (pv 5)))))))
        (pss_one (ps_set (i := 1) sc_masks_of.nd rfl (.inl rfl) (pe_op op_cat (pv 4) (pe_lst (pa_cons (pv 3) pa_nil))))))))
      (pss_one (ps_ret (pv 1))))), ?_⟩
    refine ⟨Nat.zero_le _, fun f0 hf0 => ?_⟩
    refine ⟨_, rfl, a, rfl, ⟨_, (same_upd hf0).tup hS⟩, for_tup (K := K) (a := a) (xs := vL ws) (fun i σ H' => Same H H' ∧ ∃ f y1 y2 y3 y4, σ = [some (.ref a), some (.ref f), y1, y2, y3, y4] ∧ H' f = some (.lst (vL (Ow.masksOf (ws.take i))))) ⟨same_upd hf0, f0, none, none, none, none, rfl, upd_same⟩ (fun i σ H' _ h => h.1.tup hS) ?_ ?_⟩
    · rintro i x σ H1 hx ⟨s1, f, y1, y2, y3, y4, rfl, hf⟩
      obtain ⟨c, hc, rfl⟩ := vL_get hx
      have hml := Ow.masksOf_len (ws.take i)
      have hti : (ws.take i).length ≤ 100 := Nat.le_trans (by rw [List.length_take]; omega) hlen
      refine ⟨_, rfl, Nat.zero_le _, fun ap hap => ⟨_, _, rfl, ?_⟩⟩
      refine ⟨_, rfl, f, rfl, ⟨_, sqL_new ((same_upd hap) _ _ hf)⟩, for_list (K := K) (a := f) (xs := vL (Ow.masksOf (ws.take i))) (fun j σ H' => Same H1 H' ∧ ∃ z, σ = [some (.ref a), some (.ref f), some (vN c), some (vN ((((Ow.masksOf (ws.take i)).take j).foldl (Ow.maskStep c) (c, [])).1)), some (.ref ap), z] ∧
          H' ap = some (.lst (vL ((((Ow.masksOf (ws.take i)).take j).foldl (Ow.maskStep c) (c, [])).2)))) ⟨same_upd hap, y4, rfl, upd_same⟩ (fun j σ H' _ h => sqL_new (h.1 _ _ hf)) ?_ ?_⟩
      · rintro j x σ H2 hx2 ⟨s2, z, rfl, ha2⟩
        obtain ⟨m, hm, rfl⟩ := vL_get hx2
        have e2 := take_succ hm
        rw [e2, List.foldl_append]
        have hl2 := Ow.maskStep_len c ((Ow.masksOf (ws.take i)).take j) (c, [])
        have hl3 : ((Ow.masksOf (ws.take i)).take j).length ≤ 100 := Nat.le_trans (by rw [List.length_take]; omega) (Nat.le_trans hml hti)
        have hl4 : ((((Ow.masksOf (ws.take i)).take j).foldl (Ow.maskStep c) (c, [])).2).length ≤ 100 := by
          have : (([] : List Nat)).length = 0 := rfl
          simp only [List.length_nil] at hl2
          omega
        generalize ((Ow.masksOf (ws.take i)).take j).foldl (Ow.maskStep c) (c, []) = r at *
        refine ⟨_, rfl, _, rfl, _, _, rfl, rfl, _, 0, rfl, rfl, _, rfl, ite2 (fun e => ?_) fun e => ?_⟩
        · have e0 : m &&& c = 0 := of_decide_eq_true e
          have er : [m].foldl (Ow.maskStep c) r = (r.1, r.2 ++ [m]) := by
            show Ow.maskStep c r m = _
            unfold Ow.maskStep
            rw [if_pos e0]
          rw [er]
          refine ⟨_, rfl, .inl ⟨rfl, _, sqL_new ha2⟩, _, rfl, ap, _, _, rfl, rfl, ha2, small (by rw [vL_length]; omega), ?_⟩
          exact ⟨same_updF hap s2, _, rfl, by rw [upd_same, vL_append]; rfl⟩
        · have e0 : ¬ m &&& c = 0 := fun z => e (decide_eq_true z)
          have er : [m].foldl (Ow.maskStep c) r = (r.1 ||| m, r.2) := by
            show Ow.maskStep c r m = _
            unfold Ow.maskStep
            rw [if_neg e0]
          rw [er]
          exact ⟨_, rfl, _, rfl, _, _, rfl, rfl, s2, _, rfl, ha2⟩
      · rintro σ H2 ⟨s2, z, rfl, ha2⟩
        rw [vL_length, List.take_length] at *
        have hl2 := Ow.maskStep_len c (Ow.masksOf (ws.take i)) (c, [])
        simp only [List.length_nil] at hl2
        refine ⟨_, rfl, _, rfl, (by decide : 1 ≤ sizeLine), fun l hl => ?_⟩
        refine ⟨ap, l, _, _, rfl, rfl, (same_upd hl) _ _ ha2, upd_same, small' (by rw [vL_length]; simp; omega), fun q2 hq2 => ?_⟩
        refine ⟨(s1.trans s2).trans ((same_upd hl).trans (same_upd hq2)), q2, _, _, _, _, rfl, ?_⟩
        rw [upd_same, take_succ hc, Ow.masksOf_snoc, Ow.maskWord, vL_append]
        rfl
    · rintro σ H1 ⟨s1, f, y1, y2, y3, y4, rfl, hf⟩
      rw [vL_length, List.take_length] at hf
      exact ⟨_, rfl, q H1 f s1 hf⟩
abbrev N_with_way : List Str := ["ways", "word", "place", "way"]
theorem sc_with_way : FnScope N_with_way ["ways", "word"] (defScope s_with_way) := ⟨rfl, rfl, rfl, by decide +kernel, rfl, by decide +kernel, by decide +kernel⟩
def sp_with_way (K : PySem.W.Frag) : Sp := fun vs H Q _ => ∃ (a : Addr) (n w : Nat) (us : List Nat), vs = [.ref a, vN w] ∧ SqL K H a (vL (Ow.waysN n us)) ∧ n ≤ 24 ∧ ∀ (H' : Hp) (p : Addr), H p = none → Same H H' → H' p = some (.lst (vL (Ow.waysN n (us ++ [w])))) → Q (.ref p) H'
theorem cal_with_way (T : Tx K mg) : Cal P w K mg base 1 "with_way" (sp_with_way K) := by
  refine calD (ps := ["ways", "word"]) T.f_with_way (fun _ _ _ _ _ _ us hl => match us, hl with | [_, _], _ => rfl) sc_with_way (fun vs H Q E h => ?_) (fun cdv A outer s H vs Q E hr h => ?_)
  · obtain ⟨a, n, x, us, rfl, _⟩ := h
    rfl
  · obtain ⟨a, n, x, us, rfl, hS, hn, q⟩ := h
    refine ⟨_, (pss_one (ps_ret (pe_lc (own := [("place", 2), ("way", 3)]) (by rfl) sc_with_way.nd (pi_enum (by rfl) T.b_enumerate (pa_cons (pv 0) pa_nil)) (blkOk_by (N := N_with_way) (sc := defScope s_with_way) (by decide +kernel)) (fun _ _ _ _ _ => (pg_tupK (K' := K) (n := 2) rfl (by rfl) (pgs_cons (pg_name (i := 2) sc_with_way.nd rfl (.inl rfl)) (pgs_cons (pg_name (i := 3) sc_with_way.nd rfl (.inl rfl)) pgs_nil)))) (fun _ _ _ _ _ => pts_nil) (fun _ _ _ _ _ => (pe_op op_addN (pe_op op_mulN pe_int (pv 3)) (pe_op op_andN (pe_op op_shrN (pv 1) (pv 2)) pe_int)))))), ?_⟩
    refine ⟨_, rfl, a, _, rfl, hS, fun D hD => lcGW walk_enum (List.range n) (fun _ => true) (fun b y _ => y = vN (Ow.wayN (us ++ [x]) b)) (by rw [List.length_range, vL_length, Ow.waysN_length]) hD (fun H s => s.seq hS) (small (by rw [List.length_range]; omega)) pure_stays ?_ ?_⟩
    · rintro i b v H1 H2 Qn Qs hb s1 ⟨T1, x1, x2, rfl, hT, rfl, ex1, ex2⟩ acc k1 k2
      obtain ⟨hi, rfl⟩ : i < n ∧ b = i := by
        obtain ⟨h1, h2⟩ := List.getElem?_eq_some_iff.mp hb
        rw [List.getElem_range] at h2
        rw [List.length_range] at h1
        exact ⟨h1, h2.symm⟩
      have e1 : x1 = vN b := (Option.some.inj ex1).symm
      have e2 : x2 = vN (Ow.wayN us b) := by
        refine vL_some (B := Ow.waysN n us) ?_ ex2
        unfold Ow.waysN
        rw [List.getElem?_map, List.getElem?_range hi]
        rfl
      subst e1 e2
      refine ⟨_, _, rfl, sqT_new upd_same, rfl, _, _, rfl, _, _, rfl, rfl, rfl, ?_⟩
      refine ⟨_, rfl, 2, _, rfl, rfl, .inl (by decide), _, rfl, _, rfl, _, _, rfl, rfl, _, 1, rfl, rfl, _, _, rfl, rfl, ?_⟩
      refine k1 rfl _ _ (same_upd hT) (congrArg vN ?_)
      rw [Ow.wayN_snoc]
      congr 1
      rw [Nat.and_one_is_mod, Nat.testBit_eq_decide_div_mod_eq, ← Nat.shiftRight_eq_div_pow]
      rcases Nat.mod_two_eq_zero_or_one (x >>> b) with h | h <;> rw [h] <;> rfl
    · intro H2 ys s1 hy pr
      have ey := Paired.eq_map pr
      rw [List.filter_eq_self.mpr fun _ _ => rfl] at ey
      subst ey
      exact q H2 D hD s1 (by rw [hy, Ow.waysN, vL_map])
abbrev N_small_basis : List Str := ["places", "basis"]
theorem sc_small_basis : FnScope N_small_basis ["places", "basis"] (defScope s_small_basis) := ⟨rfl, rfl, rfl, by decide +kernel, rfl, by decide +kernel, by decide +kernel⟩
def sp_small_basis (K : PySem.W.Frag) : Sp := fun vs H Q _ => ∃ (a : Addr) (n : Nat) (B : List Nat), vs = [vN n, .ref a] ∧ SqT K H a (vL B) ∧ 2 * B.length ≤ n ∧ Q (.ref a) H
theorem cal_small_basis (T : Tx K mg) : Cal P w K mg base 5 "small_basis" (sp_small_basis K) := by
  refine calD (ps := ["places", "basis"]) T.f_small_basis (fun _ _ _ _ _ _ us hl => match us, hl with | [_, _], _ => rfl) sc_small_basis (fun vs H Q E h => ?_) (fun cdv A outer s H vs Q E hr h => ?_)
  · obtain ⟨a, n, B, rfl, _⟩ := h
    rfl
  · obtain ⟨a, n, B, rfl, hS, hl, q⟩ := h
    refine ⟨_, (pss_one (ps_ret (pe_ifExp (pt_cmpR op_leN (pe_op op_mulN pe_int (pe_callB call_len_seq (by rfl) T.b_len bt_len (pa_cons (pv 1) pa_nil))) (pv 0) (nomark _)) (pv 1) (pe_c (cal_contrary_basis T) hr (by decide) (by rfl) (pa_cons (pv 0) (pa_cons (pv 1) pa_nil)))))), ?_⟩
    refine ⟨_, rfl, a, _, rfl, .inr hS, 2, B.length, rfl, (by rw [vL_length]), .inl (by decide), _, rfl, _, _, rfl, rfl, _, rfl, ite2 (fun e => ?_) fun e => ?_⟩
    · exact ⟨_, rfl, q⟩
    · exact absurd (decide_eq_true hl) e
abbrev N_ways_by : List Str := ["places", "basis", "ways", "word"]
theorem sc_ways_by : FnScope N_ways_by ["places", "basis"] (defScope s_ways_by) := ⟨rfl, rfl, rfl, by decide +kernel, rfl, by decide +kernel, by decide +kernel⟩
def sp_ways_by (K : PySem.W.Frag) : Sp := fun vs H Q _ => ∃ (a : Addr) (n : Nat) (us : List Nat), vs = [vN n, .ref a] ∧ SqL K H a (vL us) ∧ n ≤ 24 ∧ ∀ (H' : Hp) (p : Addr), H p = none → Same H H' → H' p = some (.lst (vL (Ow.waysN n us))) → Q (.ref p) H'
theorem ways_nil (n : Nat) : ((List.replicate n [V.int 0]).flatten) = vL (Ow.waysN n []) := by
  have e : Ow.waysN n [] = List.replicate n 0 := by
    unfold Ow.waysN
    rw [List.eq_replicate_iff]
    refine ⟨by simp, fun b hb => ?_⟩
    obtain ⟨c, _, rfl⟩ := List.mem_map.mp hb
    rfl
  rw [e, vL, List.map_replicate]
  induction n with
  | zero => rfl
  | succ n ih => rw [List.replicate_succ, List.replicate_succ, List.flatten_cons]; exact congrArg (V.int 0 :: ·) (ih (by unfold Ow.waysN; rw [List.eq_replicate_iff]; refine ⟨by simp, fun b hb => ?_⟩; obtain ⟨c, _, rfl⟩ := List.mem_map.mp hb; rfl))
theorem cal_ways_by (T : Tx K mg) : Cal P w K mg base 2 "ways_by" (sp_ways_by K) := by
  refine calD (ps := ["places", "basis"]) T.f_ways_by (fun _ _ _ _ _ _ us hl => match us, hl with | [_, _], _ => rfl) sc_ways_by (fun vs H Q E h => ?_) (fun cdv A outer s H vs Q E hr h => ?_)
  · obtain ⟨a, n, us, rfl, _⟩ := h
    rfl
  · obtain ⟨a, n, us, rfl, hS, hn, q⟩ := h
    refine ⟨_, (pss_cons (ps_set (i := 2) sc_ways_by.nd rfl (.inl rfl) (pe_op op_rep (pe_lst (pa_cons pe_int pa_nil)) (pv 0)))
      (pss_cons (ps_for PassesOwn.never rfl (pi_list (pv 1)) (pg_name (i := 3) sc_ways_by.nd rfl (.inl rfl))
        (pss_one (ps_set (i := 2) sc_ways_by.nd rfl (.inl rfl) (pe_c (cal_with_way T) hr (by decide) (by rfl) (pa_cons (pv 2) (pa_cons (pv 3) pa_nil))))))
      (pss_one (ps_ret (pv 2))))), ?_⟩
    refine ⟨by decide, fun l hl => ?_⟩
    refine ⟨_, rfl, l, _, _, rfl, rfl, upd_same, by omega, by omega, small' (by simp; omega), fun p hp => ?_⟩
    have e0 : (upd (upd H l (.lst [.int 0])) p (.lst (List.replicate ((n : Int)).toNat [V.int 0]).flatten)) p = some (.lst (vL (Ow.waysN n []))) := by rw [upd_same, Int.toNat_natCast, ways_nil]
    have s0 := (same_upd (o := .lst [.int 0]) hl).trans (same_upd (o := .lst (List.replicate ((n : Int)).toNat [V.int 0]).flatten) hp)
    refine ⟨_, rfl, a, rfl, ⟨_, s0.seq hS⟩, for_list (K := K) (a := a) (xs := vL us) (fun i σ H' => Same H H' ∧ ∃ f y, σ = [some (vN n), some (.ref a), some (.ref f), y] ∧ H' f = some (.lst (vL (Ow.waysN n (us.take i)))) ∧ H f = none) ⟨s0, p, none, rfl, e0, none_of_same (same_upd hl) hp⟩ (fun i σ H' _ h => h.1.seq hS) ?_ ?_⟩
    · rintro i x σ H1 hx ⟨s1, f, y, rfl, hf, _⟩
      obtain ⟨c, hc, rfl⟩ := vL_get hx
      refine ⟨_, rfl, _, rfl, f, n, c, us.take i, rfl, sqL_new hf, hn, fun H2 f2 nf2 s2 hf2 => ?_⟩
      exact ⟨s1.trans s2, f2, _, rfl, by rw [take_succ hc]; exact hf2, none_of_same s1 nf2⟩
    · rintro σ H1 ⟨s1, f, y, rfl, hf, nf⟩
      rw [vL_length, List.take_length] at hf
      exact ⟨_, rfl, q H1 f nf s1 hf⟩
end
end Oc
set_option Elab.async false
set_option linter.all false
set_option maxRecDepth 100000
set_option maxHeartbeats 4000000
namespace Oc
open PySem PySem.Spec PyProof.Rows L2
theorem Paired.permute {α β : Type} {F : α → β → Prop} {ys xs : List β} (p : ys.Perm xs) : ∀ {l : List α}, Paired F l xs → ∃ l' : List α, l'.Perm l ∧ Paired F l' ys := by
  induction p with
  | nil => intro l h; cases h; exact ⟨[], .refl _, .nil⟩
  | cons x _ ih =>
    intro l h
    cases h with
    | cons h1 h2 =>
      obtain ⟨l', p', h'⟩ := ih h2
      exact ⟨_ :: l', p'.cons _, .cons h1 h'⟩
  | swap x y l0 =>
    intro l h
    cases h with
    | cons h1 h2 =>
      cases h2 with
      | cons h3 h4 => exact ⟨_, .swap _ _ _, .cons h3 (.cons h1 h4)⟩
  | trans p1 p2 ih1 ih2 =>
    intro l h
    obtain ⟨l1, q1, h1⟩ := ih2 h
    obtain ⟨l2, q2, h2⟩ := ih1 h1
    exact ⟨l2, q2.trans q1, h2⟩
theorem Paired.at {α β : Type} {F : α → β → Prop} : ∀ {l : List α} {xs : List β} {i : Nat} {b : α} {x : β}, Paired F l xs → l[i]? = some b → xs[i]? = some x → F b x
  | _, _, 0, _, _, .cons h _, e1, e2 => by
    rw [List.getElem?_cons_zero] at e1 e2
    cases e1
    cases e2
    exact h
  | _, _, i + 1, _, _, .cons _ t, e1, e2 => Paired.at t (i := i) (by simpa using e1) (by simpa using e2)
theorem Paired.length' {α β : Type} {F : α → β → Prop} : ∀ {l : List α} {xs : List β}, Paired F l xs → l.length = xs.length
  | _, _, .nil => rfl
  | _, _, .cons _ t => by rw [List.length_cons, List.length_cons, Paired.length' t]
theorem Paired.memR {α β : Type} {F : α → β → Prop} {x : β} : ∀ {l : List α} {xs : List β}, Paired F l xs → x ∈ xs → ∃ b ∈ l, F b x
  | _, _, .cons h t, m => by
    rcases List.mem_cons.mp m with rfl | m
    · exact ⟨_, List.mem_cons_self, h⟩
    · obtain ⟨b, hb, f⟩ := Paired.memR t m
      exact ⟨b, List.mem_cons_of_mem _ hb, f⟩
theorem atI_zero {α : Type} (x : α) (l : List α) : atI (x :: l) 0 = some x := by
  unfold atI ixN
  rw [if_pos (by decide), if_pos (by rw [List.length_cons]; omega)]
  rfl
def LightInv (K : PySem.W.Frag) (H4 : Hp) (a f : Addr) (B : List Nat) (m : Nat) (σ : L2.St) (H' : Hp) : Prop :=
  ∃ (lf pp : Addr) (L bs : List Nat) (u : Nat) (y5 y6 y7 y8 : Option V), σ = [some (.ref a), some (.ref lf), some (.ref f), some (.ref pp), some (vN u), y5, y6, y7, y8] ∧ m + bs.length = B.length ∧ Same H4 H' ∧
    H' lf = some (.lst (vL L)) ∧ H' f = some (.lst (vL bs)) ∧ SqT K H' pp (vL (Ow.plainBasis bs)) ∧ lf ≠ f ∧ (∀ w ∈ L, w ∈ Ow.span B) ∧ (∀ w ∈ Ow.span B, w ∉ Ow.span bs → w ∈ L) ∧ (∀ w ∈ bs, w ∈ Ow.span B) ∧ (Ow.plainBasis bs).length = bs.length ∧ L.length ≤ 32
theorem light_step {K : PySem.W.Frag} {H4 H8 H9 : Hp} {a f D p9 : Addr} {B L bs : List Nat} {m u wd : Nat} {y5 y6 y7 y8 : Option V} (hP : Ow.Plain B) (hf : H4 f = none) (s8 : Same H4 H8) (s9 : Same H8 H9) (em : m + bs.length = B.length)
    (c1 : ∀ w ∈ L, w ∈ Ow.span B) (c2 : ∀ w ∈ Ow.span B, w ∉ Ow.span bs → w ∈ L) (c3 : ∀ w ∈ bs, w ∈ Ow.span B) (c4 : (Ow.plainBasis bs).length = bs.length) (c5 : L.length ≤ 32) (hwd : wd ∈ L.filter fun w => !decide (Ow.leftOf (Ow.plainBasis bs) w = 0))
    (hD : H8 D = some (.lst (vL (L.filter fun w => !decide (Ow.leftOf (Ow.plainBasis bs) w = 0))))) (hf8 : H8 f = some (.lst (vL (bs ++ [wd])))) (hp9 : SqT K H9 p9 (vL (Ow.withWord (Ow.plainBasis bs) wd))) (nD : D ≠ f) (hm : 0 < m) :
    LightInv K H4 a f B (m - 1) [some (.ref a), some (.ref D), some (.ref f), some (.ref p9), some (vN (u ||| wd)), y5, y6, y7, y8] H9 := by
  obtain ⟨h1, h2⟩ := List.mem_filter.mp hwd
  have h3 : wd ∉ Ow.span (Ow.plainBasis bs) := fun z => by
    rw [(Ow.leftOf_zero (Ow.plainBasis_plain bs)).mpr z] at h2
    cases h2
  refine ⟨D, p9, _, bs ++ [wd], u ||| wd, _, _, _, _, rfl, by rw [List.length_append, List.length_singleton]; omega, s8.trans s9, s9 _ _ hD, s9 _ _ hf8, by rw [Ow.plainBasis_snoc]; exact hp9, nD, fun x hx => c1 x (List.mem_filter.mp hx).1, fun x hx hn => ?_, fun x hx => ?_, ?_, Nat.le_trans (List.length_filter_le _ _) c5⟩
  · have hn2 : x ∉ Ow.span bs := fun z => hn (Ow.span_sub (fun b hb => Ow.mem_span_of_mem (List.mem_append_left _ hb)) z)
    refine List.mem_filter.mpr ⟨c2 x hx hn2, ?_⟩
    rw [decide_eq_false fun z => hn2 (Ow.mem_plainBasis_span.mp ((Ow.leftOf_zero (Ow.plainBasis_plain bs)).mp z))]
    rfl
  · rcases List.mem_append.mp hx with hx | hx
    · exact c3 x hx
    · rw [List.mem_singleton.mp hx]
      exact c1 _ h1
  · rw [Ow.plainBasis_snoc, Ow.withWord_length (Ow.plainBasis_plain bs) h3, c4, List.length_append]
    rfl
section
variable {P : Program} {w : World} {K : PySem.W.Frag} {mg : Str → Option Value} {base : Heap}
abbrev N_light_basis : List Str := ["basis", "left", "found", "plain", "used", "least", "near", "word", "weight"]
theorem sc_light_basis : FnScope N_light_basis ["basis"] (defScope s_light_basis) := ⟨rfl, rfl, rfl, by decide +kernel, rfl, by decide +kernel, by decide +kernel⟩
def sp_light_basis (K : PySem.W.Frag) : Sp := fun vs H Q _ => ∃ (a : Addr) (B : List Nat), vs = [.ref a] ∧ SqT K H a (vL B) ∧ Ow.Plain B ∧ B.length ≤ 5 ∧ (∀ b ∈ B, b < 2 ^ 24) ∧
  ∀ (H' : Hp) (p : Addr) (bs : List Nat), Same H H' → H' p = some (.lst (vL bs)) → Ow.IsBasis B bs → Q (.ref p) H'
theorem cal_light_basis (T : Tx K mg) : Cal P w K mg base 3 "light_basis" (sp_light_basis K) := by
  refine calD (ps := ["basis"]) T.f_light_basis (fun _ _ _ _ _ _ us hl => match us, hl with | [_], _ => rfl) sc_light_basis (fun vs H Q E h => ?_) (fun cdv A outer s H vs Q E hr h => ?_)
  · obtain ⟨a, B, rfl, _⟩ := h
    rfl
  · obtain ⟨a, B, rfl, hS, hP, h5, h24, q⟩ := h
    have hsp : (Ow.span B).length ≤ 32 := by
      rw [Ow.length_span]
      exact Nat.le_trans (Nat.pow_le_pow_right (by decide) h5) (by decide)
    have hlt : ∀ x ∈ Ow.span B, x < 2 ^ 24 := fun x hx => Ow.span_lt h24 hx
    refine ⟨_, (pss_cons (ps_setLc (i := 1) (own := [("weight", 8), ("word", 7)]) (by rfl) sc_light_basis.nd rfl rfl (sw_true rfl rfl rfl (by decide +kernel)) (pi_list (pe_callB cr_sortedP (by rfl) T.b_sorted bt_sorted (pa_cons (pe_lc (own := [("word", 7)]) (by rfl) sc_light_basis.nd (pi_list (pe_c (cal_all_words T) hr (by decide) (by rfl) (pa_cons (pv 0) pa_nil))) (blkOk_by (N := N_light_basis) (sc := defScope s_light_basis) (by decide +kernel)) (fun _ _ _ _ _ => (pg_name (i := 7) sc_light_basis.nd rfl (.inl rfl))) (fun _ _ _ _ _ => pts_nil) (fun _ _ _ _ _ => (pe_tup (pa_cons (pe_c (cal_weight_of T) hr (by decide) (by rfl) (pa_cons (pv 7) pa_nil)) (pa_cons (pv 7) pa_nil))))) pa_nil))) (blkOk_by (N := N_light_basis) (sc := defScope s_light_basis) (by decide +kernel)) (fun _ _ _ _ _ => (pg_tupK (K' := K) (n := 2) rfl (by rfl) (pgs_cons (pg_name (i := 8) sc_light_basis.nd rfl (.inl rfl)) (pgs_cons (pg_name (i := 7) sc_light_basis.nd rfl (.inl rfl)) pgs_nil)))) (fun _ _ _ _ _ => pts_nil) (fun _ _ _ _ _ => (pv 7)))
      (pss_cons (ps_asg (pe_tup (pa_cons (pe_lst pa_nil) (pa_cons (pe_tup pa_nil) (pa_cons pe_int pa_nil)))) (pg_tup (by rfl) (pgs_cons (pg_name (i := 2) sc_light_basis.nd rfl (.inl rfl)) (pgs_cons (pg_name (i := 3) sc_light_basis.nd rfl (.inr rfl)) (pgs_cons (pg_name (i := 4) sc_light_basis.nd rfl (.inr rfl)) pgs_nil)))))
      (pss_cons (ps_while PassesOwn.never (pt_cmpR op_ltN (pe_callB call_len_seq (by rfl) T.b_len bt_len (pa_cons (pv 2) pa_nil)) (pe_callB call_len_seq (by rfl) T.b_len bt_len (pa_cons (pv 0) pa_nil)) (nomark _))
        (pss_cons (ps_setLc (i := 1) (own := [("word", 7)]) (by rfl) sc_light_basis.nd rfl rfl (sw_true rfl rfl rfl (by decide +kernel)) (pi_list (pv 1)) (blkOk_by (N := N_light_basis) (sc := defScope s_light_basis) (by decide +kernel)) (fun _ _ _ _ _ => (pg_name (i := 7) sc_light_basis.nd rfl (.inl rfl))) (fun _ _ _ _ _ => (pts_one (pt_cmpR op_neN (pe_c (cal_left_of T) hr (by decide) (by rfl) (pa_cons (pv 3) (pa_cons (pv 7) pa_nil))) pe_int (nomark _)))) (fun _ _ _ _ _ => (pv 7)))
        (pss_cons (ps_set (i := 5) sc_light_basis.nd rfl (.inr rfl) (pe_c (cal_weight_of T) hr (by decide) (by rfl) (pa_cons (pe_ix ix_list (pv 1) pe_int (fun _ _ => rfl)) pa_nil)))
        (pss_cons (ps_setLc (i := 6) (own := [("word", 7)]) (by rfl) sc_light_basis.nd rfl rfl (sw_true rfl rfl rfl (by decide +kernel)) (pi_list (pv 1)) (blkOk_by (N := N_light_basis) (sc := defScope s_light_basis) (by decide +kernel)) (fun _ _ _ _ _ => (pg_name (i := 7) sc_light_basis.nd rfl (.inl rfl))) (fun _ _ _ _ _ => (pts_one (PW.pt (pw_and (pt_cmpR op_eqN (pe_c (cal_weight_of T) hr (by decide) (by rfl) (pa_cons (pv 7) pa_nil)) (pv 5) (nomark _)) (pw_and1 (pt_cmpR op_neN (pe_op op_andN (pv 7) (pv 4)) pe_int (nomark _))))))) (fun _ _ _ _ _ => (pv 7)))
        (pss_cons (ps_set (i := 7) sc_light_basis.nd rfl (.inl rfl) (pe_ifExp (pt_cmpR op_gtN (pe_callB call_len_seq (by rfl) T.b_len bt_len (pa_cons (pv 6) pa_nil)) pe_int (nomark _)) (pe_ix ix_list (pv 6) pe_int (fun _ _ => rfl)) (pe_ix ix_list (pv 1) pe_int (fun _ _ => rfl))))
        (pss_cons (ps_expr (pe_bm PySem.F.plainAttrs_list PySem.F.slot_list_append PySem.F.type_list_append mt_append (pv 2) (pa_cons (pv 7) pa_nil)))
        (pss_one (ps_asg (pe_tup (pa_cons (pe_c (cal_with_word T) hr (by decide) (by rfl) (pa_cons (pv 3) (pa_cons (pv 7) pa_nil))) (pa_cons (pe_op op_orN (pv 4) (pv 7)) pa_nil))) (pg_tup (by rfl) (pgs_cons (pg_name (i := 3) sc_light_basis.nd rfl (.inr rfl)) (pgs_cons (pg_name (i := 4) sc_light_basis.nd rfl (.inr rfl)) pgs_nil)))))))))))
      (pss_one (ps_ret (pv 2)))))), ?_⟩
    refine ⟨_, rfl, a, B, rfl, .inr hS, by omega, fun H1 p1 s1 hp1 => ?_⟩
    refine ⟨p1, rfl, ⟨_, sqL_new hp1⟩, fun D hD => lcGL (fun _ => true) (fun b y H => ∃ t, y = .ref t ∧ t ≠ D ∧ H t = some (.tup [vN (Ow.wt b), vN b])) hD (sqL_new hp1) (small (by omega)) (fun b y H H' ⟨t, e, ne, h⟩ bt => ⟨t, e, ne, bt _ _ h ne⟩) ?_ ?_⟩
    · intro b H2 Qn Qs hb s ⟨acc, hacc⟩ k1 k2
      refine ⟨rfl, _, rfl, b, rfl, hlt b hb, _, rfl, (by decide : 2 ≤ sizeLine), fun t ht => ?_⟩
      exact k1 rfl _ _ (same_upd ht) ⟨t, rfl, (fun e => by subst e; rw [hacc] at ht; cases ht), upd_same⟩
    · intro H2 ys s2 hy pr
      rw [List.filter_eq_self.mpr fun _ _ => rfl] at pr
      refine ⟨D, ys, rfl, sqL_new hy, fun x hx => ?_, fun zs p2 hz hp2 => ?_⟩
      · obtain ⟨b, hb, t, e, ne, ht⟩ := Paired.memR pr hx
        exact ⟨t, _, _, e, ht⟩
      · obtain ⟨l', pl, pr'⟩ := Paired.permute hz pr
        have hl' : l'.length ≤ 32 := by rw [pl.length_eq]; exact hsp
        have e2 : (upd H2 p2 (.lst zs)) p2 = some (.lst zs) := upd_same
        refine ⟨p2, rfl, ⟨_, sqL_new e2⟩, fun D2 hD2 => lcGW walk_list l' (fun _ => true) (fun b y _ => y = vN b) (Paired.length' pr') hD2 (fun H s => sqL_new (s _ _ e2)) (small (by omega)) pure_stays ?_ ?_⟩
        · rintro i b x H4 H5 Qn Qs hb s4 ⟨rfl, hx⟩ acc k1 k2
          obtain ⟨t, rfl, ne, ht⟩ := Paired.at pr' hb hx
          refine ⟨t, _, rfl, sqT_new (s4 _ _ ((same_upd hp2) _ _ ht)), rfl, _, _, rfl, _, _, rfl, rfl, rfl, ?_⟩
          exact ⟨_, rfl, k1 rfl _ _ (Same.refl _) rfl⟩
        · intro H4 ws s4 hy4 pr4
          have ey := Paired.eq_map pr4
          rw [List.filter_eq_self.mpr fun _ _ => rfl] at ey
          subst ey
          have s04 : Same H H4 := s1.trans (s2.trans ((same_upd hp2).trans s4))
          refine ⟨Nat.zero_le _, fun f hf => ⟨Nat.zero_le _, fun pp hpp => ⟨(by decide : 3 ≤ sizeLine), fun tp htp => ⟨tp, _, rfl, sqT_new upd_same, rfl, _, _, rfl, _, _, rfl, _, _, rfl, rfl, ?_⟩⟩⟩⟩
          have sf : Same H4 (upd (upd (upd H4 f (.lst [])) pp (.tup [])) tp (.tup [.ref f, .ref pp, .int 0])) := (same_upd hf).trans ((same_upd hpp).trans (same_upd htp))
          have eD2 : H4 D2 = some (.lst (vL l')) := hy4
          have nD2 : D2 ≠ f := ne_of_none eD2 hf
          refine ⟨LightInv K H4 a f B, ⟨B.length, D2, pp, l', [], 0, _, _, _, _, rfl, rfl, sf, sf _ _ eD2, ?_, ?_, nD2, (fun x hx => pl.mem_iff.mp hx), (fun x hx _ => pl.mem_iff.mpr hx), (fun x hx => nomatch hx), rfl, hl'⟩, ?_⟩
          · exact (same_upd htp) _ _ ((same_upd hpp) _ _ upd_same)
          · exact sqT_new ((same_upd htp) _ _ upd_same)
          · rintro m σ H5 ⟨lf, pp, L, bs, u, y5, y6, y7, y8, rfl, em, s5, hL, hf5, hpp5, nlf, c1, c2, c3, c4, c5⟩
            refine ⟨_, rfl, f, _, rfl, .inl (sqL_new hf5), _, rfl, a, _, rfl, .inr ((s04.trans s5).tup hS), _, _, rfl, rfl, _, rfl, ite2 (fun e => ?_) fun e => ?_⟩
            · have e1 : bs.length < B.length := by
                have := of_decide_eq_true e
                rw [vL_length, vL_length] at this
                exact this
              have hbl : bs.length ≤ 5 := by omega
              have hpl : (Ow.plainBasis bs).length ≤ 5 := by omega
              refine ⟨LightInv K H4 a f B (m - 1), fun σ' H' h => ⟨m - 1, by omega, h⟩, ?_⟩
              refine ⟨_, rfl, lf, rfl, ⟨_, sqL_new hL⟩, fun D hD => lcGL (fun w => !decide (Ow.leftOf (Ow.plainBasis bs) w = 0)) (fun b y _ => y = vN b) hD (sqL_new hL) (small (by omega)) pure_stays ?_ ?_⟩
              · intro b H6 Qn Qs hb s _ k1 k2
                refine ⟨rfl, _, rfl, _, rfl, pp, Ow.plainBasis bs, b, rfl, s.tup hpp5, _, 0, rfl, rfl, _, rfl, ite2 (fun e => ?_) fun e => ?_⟩
                · exact ⟨_, rfl, k1 e _ _ (Same.refl _) rfl⟩
                · exact k2 (by simpa using e) _ (Same.refl _)
              · intro H6 ys s6 hy pr
                have ey := Paired.eq_map pr
                subst ey
                have nD : D ≠ f := fun z => by rw [z] at hD; rw [hf5] at hD; cases hD
                obtain ⟨L2, eL2⟩ : ∃ L2, L2 = L.filter fun w => !decide (Ow.leftOf (Ow.plainBasis bs) w = 0) := ⟨_, rfl⟩
                have hL6 : H6 D = some (.lst (vL L2)) := by rw [eL2]; exact hy
                have hL2 : L2.length ≤ 32 := by rw [eL2]; exact Nat.le_trans (List.length_filter_le _ _) c5
                obtain ⟨w0, L3, eL3, hw0⟩ : ∃ w0 L3, L2 = w0 :: L3 ∧ w0 < 2 ^ 24 := by
                  obtain ⟨w, hw, hn⟩ := Ow.basis_more (P := Ow.plainBasis bs) hP (by omega)
                  have hwL : w ∈ L2 := by
                    rw [eL2]
                    refine List.mem_filter.mpr ⟨c2 w hw fun z => hn (Ow.mem_plainBasis_span.mpr z), ?_⟩
                    rw [decide_eq_false fun z => hn ((Ow.leftOf_zero (Ow.plainBasis_plain bs)).mp z)]
                    rfl
                  cases hc : L2 with
                  | nil => rw [hc] at hwL; cases hwL
                  | cons x l => exact ⟨x, l, rfl, hlt x (c1 x (List.mem_filter.mp (eL2 ▸ hc ▸ List.mem_cons_self)).1)⟩
                have hw2 : ∀ x ∈ L2, x ∈ L ∧ Ow.leftOf (Ow.plainBasis bs) x ≠ 0 := fun x hx => by
                  rw [eL2] at hx
                  obtain ⟨h1, h2⟩ := List.mem_filter.mp hx
                  exact ⟨h1, by simpa using h2⟩
                refine ⟨_, rfl, D, _, 0, _, rfl, rfl, sqL_new hL6, (by rw [eL3]; exact atI_zero _ _), w0, rfl, hw0, ?_⟩
                refine ⟨_, rfl, D, rfl, ⟨_, sqL_new hL6⟩, fun E hE => lcGL (fun w => decide (Ow.wt w = Ow.wt w0) && !decide (w &&& u = 0)) (fun b y _ => y = vN b) hE (sqL_new hL6) (small (by omega)) pure_stays ?_ ?_⟩
                · intro b H7 Qn Qs hb s _ k1 k2
                  refine ⟨rfl, _, rfl, b, rfl, hlt b (c1 b (hw2 b hb).1), _, rfl, _, _, rfl, rfl, _, rfl, ite2 (fun e => ?_) fun e => ?_⟩
                  · refine ⟨_, rfl, _, rfl, _, _, rfl, rfl, _, 0, rfl, rfl, _, rfl, ite2 (fun e2 => ?_) fun e2 => ?_⟩
                    · exact ⟨_, rfl, k1 (Bool.and_eq_true_iff.mpr ⟨e, e2⟩) _ _ (Same.refl _) rfl⟩
                    · exact k2 (Bool.and_eq_false_iff.mpr (.inr (Bool.not_eq_true _ ▸ e2))) _ (Same.refl _)
                  · exact k2 (Bool.and_eq_false_iff.mpr (.inl (Bool.not_eq_true _ ▸ e))) _ (Same.refl _)
                · intro H7 ys s7 hy7 pr7
                  have ey7 := Paired.eq_map pr7
                  subst ey7
                  have hf7 : H7 f = some (.lst (vL bs)) := s7 _ _ (s6 _ _ hf5)
                  obtain ⟨L4, eL4⟩ : ∃ L4, L4 = L2.filter fun w => decide (Ow.wt w = Ow.wt w0) && !decide (w &&& u = 0) := ⟨_, rfl⟩
                  have hE7 : H7 E = some (.lst (vL L4)) := by rw [eL4]; exact hy7
                  refine ⟨_, rfl, E, _, rfl, .inl (sqL_new hE7), _, 0, rfl, rfl, _, rfl, ite2 (fun e => ?_) fun e => ?_⟩
                  · obtain ⟨wd, L5, eL5⟩ : ∃ wd L5, L4 = wd :: L5 := by
                      have := of_decide_eq_true e
                      rw [vL_length] at this
                      cases hc : L4 with
                      | nil => rw [hc] at this; cases this
                      | cons x l => exact ⟨x, l, rfl⟩
                    have hwd : wd ∈ L2 := (List.mem_filter.mp (eL4 ▸ eL5 ▸ List.mem_cons_self : wd ∈ L2.filter fun w => decide (Ow.wt w = Ow.wt w0) && !decide (w &&& u = 0))).1
                    rw [eL2] at hwd
                    rw [eL2] at hL6
                    refine ⟨_, rfl, E, _, 0, _, rfl, rfl, sqL_new hE7, (by rw [eL5]; exact atI_zero _ _), ?_⟩
                    refine ⟨_, rfl, .inl ⟨rfl, _, sqL_new hf7⟩, _, rfl, f, _, _, rfl, rfl, hf7, small (by rw [vL_length]; omega), ?_⟩
                    have h8 : ∀ c o, H7 c = some o → c ≠ f → (upd H7 f (.lst (vL bs ++ [vN wd]))) c = some o := fun c o e ne => by rw [upd_ne ne]; exact e
                    have hp8 : SqT K (upd H7 f (.lst (vL bs ++ [vN wd]))) pp (vL (Ow.plainBasis bs)) := tup_but hf7 (fun _ e => by cases e) (fun _ _ e => by cases e) ((s6.trans s7).tup hpp5) h8
                    refine ⟨_, rfl, _, rfl, pp, Ow.plainBasis bs, wd, rfl, hp8, by omega, fun H9 p9 s9 hp9 => ⟨_, rfl, _, rfl, _, _, rfl, rfl, (by decide : 2 ≤ sizeLine), fun tq htq => ⟨tq, _, rfl, sqT_new upd_same, rfl, _, _, rfl, _, _, rfl, rfl, ?_⟩⟩⟩
                    refine light_step hP hf (same_updF hf (s5.trans (s6.trans s7))) (s9.trans (same_upd htq)) em c1 c2 c3 c4 c5 hwd (h8 _ _ (s7 _ _ hL6) nD) (by rw [upd_same, vL_append]; rfl) ((same_upd htq).tup hp9) nD (by omega)
                  · have hwd : w0 ∈ L2 := by rw [eL3]; exact List.mem_cons_self
                    refine ⟨_, rfl, D, _, 0, _, rfl, rfl, sqL_new (s7 _ _ hL6), (by rw [eL3]; exact atI_zero _ _), ?_⟩
                    rw [eL2] at hwd
                    rw [eL2] at hL6
                    refine ⟨_, rfl, .inl ⟨rfl, _, sqL_new hf7⟩, _, rfl, f, _, _, rfl, rfl, hf7, small (by rw [vL_length]; omega), ?_⟩
                    have h8 : ∀ c o, H7 c = some o → c ≠ f → (upd H7 f (.lst (vL bs ++ [vN w0]))) c = some o := fun c o e ne => by rw [upd_ne ne]; exact e
                    have hp8 : SqT K (upd H7 f (.lst (vL bs ++ [vN w0]))) pp (vL (Ow.plainBasis bs)) := tup_but hf7 (fun _ e => by cases e) (fun _ _ e => by cases e) ((s6.trans s7).tup hpp5) h8
                    refine ⟨_, rfl, _, rfl, pp, Ow.plainBasis bs, w0, rfl, hp8, by omega, fun H9 p9 s9 hp9 => ⟨_, rfl, _, rfl, _, _, rfl, rfl, (by decide : 2 ≤ sizeLine), fun tq htq => ⟨tq, _, rfl, sqT_new upd_same, rfl, _, _, rfl, _, _, rfl, rfl, ?_⟩⟩⟩
                    refine light_step hP hf (same_updF hf (s5.trans (s6.trans s7))) (s9.trans (same_upd htq)) em c1 c2 c3 c4 c5 hwd (h8 _ _ (s7 _ _ hL6) nD) (by rw [upd_same, vL_append]; rfl) ((same_upd htq).tup hp9) nD (by omega)
            · have e1 : bs.length = B.length := by
                have : ¬ (vL bs).length < (vL B).length := fun z => e (decide_eq_true z)
                rw [vL_length, vL_length] at this
                omega
              refine ⟨_, rfl, q H5 f bs (s04.trans s5) hf5 ⟨c3, e1, c4⟩⟩
end
end Oc
set_option Elab.async false
set_option linter.all false
set_option maxRecDepth 100000
set_option maxHeartbeats 4000000
namespace Oc
open PySem PySem.Spec PyProof.Rows L2
abbrev intD (x : Nat) : PyData := .int (x : Int)
def listD (l : List Nat) : PyData := .list (l.map intD)
theorem alikeAll_ints : ∀ xs ys : List Nat, PySem.W.alikeAll (xs.map intD) (ys.map intD) = true
  | [], [] => by simp [PySem.W.alikeAll]
  | [], _ :: _ => by simp [PySem.W.alikeAll]
  | _ :: _, [] => by simp [PySem.W.alikeAll]
  | x :: xs, y :: ys => by
    rw [List.map_cons, List.map_cons]
    simp only [PySem.W.alikeAll, PySem.W.alike, alikeAll_ints xs ys]
    rfl
theorem listD_alike (xs ys : List Nat) : PySem.W.alike (listD xs) (listD ys) = true := by
  unfold listD
  simp only [PySem.W.alike]
  exact alikeAll_ints xs ys
theorem depth_ints : ∀ xs : List Nat, PyData.depthAll (xs.map intD) = 0
  | [] => rfl
  | x :: xs => by rw [List.map_cons]; simp only [PyData.depthAll, depth_ints xs, PyData.depth]; rfl
theorem listD_depth (xs : List Nat) : (listD xs).depth ≤ 60 := by
  unfold listD
  simp only [PyData.depth, depth_ints]
  decide
theorem dp_ints {K : PySem.W.Frag} {H : Hp} : ∀ xs : List Nat, DpAll K H (vL xs) (xs.map intD)
  | [] => .nil
  | x :: xs => .cons (.int _) (dp_ints xs)
theorem dp_list {K : PySem.W.Frag} {H : Hp} {q : Addr} {l : List Nat} (h : H q = some (.lst (vL l))) : Dp K H (.ref q) (listD l) := .lst (sqL_new h) (dp_ints l)
/-- y is a list of naturals -/
abbrev LstAt (H : Hp) (l : List Nat) (y : V) : Prop := ∃ q, y = .ref q ∧ H q = some (.lst (vL l))
theorem dp_lists {K : PySem.W.Frag} {H : Hp} : ∀ {LL : List (List Nat)} {ys : List V}, Paired (fun l y => LstAt H l y) LL ys → DpAll K H ys (LL.map listD)
  | _, _, .nil => .nil
  | _, _, .cons ⟨q, e, h⟩ t => .cons (by rw [e]; exact dp_list h) (dp_lists t)
theorem lists_alike (LL : List (List Nat)) : PySem.W.AllAlike (LL.map listD) := fun d hd d' hd' => by
  obtain ⟨l, _, rfl⟩ := List.mem_map.mp hd
  obtain ⟨l', _, rfl⟩ := List.mem_map.mp hd'
  exact listD_alike l l'
theorem lists_sortable (LL : List (List Nat)) : PySem.W.Sortable (LL.map listD) := .inr fun d hd => by
  obtain ⟨l, _, rfl⟩ := List.mem_map.mp hd
  exact ⟨(fun e => by cases e), (fun xs e => by cases e)⟩
theorem lists_depth (LL : List (List Nat)) : ∀ d ∈ LL.map listD, d.depth ≤ 60 := fun d hd => by
  obtain ⟨l, _, rfl⟩ := List.mem_map.mp hd
  exact listD_depth l
theorem Paired.append {α β : Type} {F : α → β → Prop} : ∀ {l l' : List α} {m m' : List β}, Paired F l m → Paired F l' m' → Paired F (l ++ l') (m ++ m')
  | _, _, _, _, .nil, h => h
  | _, _, _, _, .cons h t, h' => .cons h (Paired.append t h')
theorem Paired.map_left {α β γ : Type} {F : γ → β → Prop} {f : α → γ} : ∀ {l : List α} {m : List β}, Paired (fun a b => F (f a) b) l m → Paired F (l.map f) m
  | _, _, .nil => .nil
  | _, _, .cons h t => .cons h (Paired.map_left t)
def partsL (n : Nat) (B : List Nat) : List (List Nat) := (Ow.masksOf B).map Ow.spots ++ (Ow.spots ((2 ^ n - 1) ^^^ Ow.union (Ow.masksOf B))).map fun p => [p]
section
variable {P : Program} {w : World} {K : PySem.W.Frag} {mg : Str → Option Value} {base : Heap}
abbrev N_parts_of : List Str := ["places", "basis", "masks", "used", "mask", "lone", "place"]
theorem sc_parts_of : FnScope N_parts_of ["places", "basis"] (defScope s_parts_of) := ⟨rfl, rfl, rfl, by decide +kernel, rfl, by decide +kernel, by decide +kernel⟩
def sp_parts_of (K : PySem.W.Frag) : Sp := fun vs H Q _ => ∃ (a : Addr) (n : Nat) (B : List Nat), vs = [vN n, .ref a] ∧ SqT K H a (vL B) ∧ B.length ≤ 24 ∧ n ≤ 24 ∧
  ∀ (H' : Hp) (p : Addr) (ys : List V) (LL : List (List Nat)), Same H H' → H' p = some (.lst ys) → Paired (fun l y => LstAt H' l y) LL ys → LL.Perm (partsL n B) → Q (.ref p) H'
theorem cal_parts_of (T : Tx K mg) : Cal P w K mg base 2 "parts_of" (sp_parts_of K) := by
  refine calD (ps := ["places", "basis"]) T.f_parts_of (fun _ _ _ _ _ _ us hl => match us, hl with | [_, _], _ => rfl) sc_parts_of (fun vs H Q E h => ?_) (fun cdv A outer s H vs Q E hr h => ?_)
  · obtain ⟨a, n, B, rfl, _⟩ := h
    rfl
  · obtain ⟨a, n, B, rfl, hS, hl, hn, q⟩ := h
    refine ⟨_, (pss_cons (ps_par (i := 2) (j := 3) (by rfl) sc_parts_of.nd rfl rfl (by decide) rfl rfl (pa_cons (pe_c (cal_masks_of T) hr (by decide) (by rfl) (pa_cons (pv 1) pa_nil)) (pa_cons pe_int pa_nil)) (by rfl))
      (pss_cons (ps_for PassesOwn.never rfl (pi_list (pv 2)) (pg_name (i := 4) sc_parts_of.nd rfl (.inl rfl))
        (pss_one (ps_set (i := 3) sc_parts_of.nd rfl (.inl rfl) (pe_op op_orN (pv 3) (pv 4)))))
      (pss_cons (ps_setLc (i := 5) (own := [("place", 6)]) (by rfl) sc_parts_of.nd rfl rfl (sw_true rfl rfl rfl (by decide +kernel)) (pi_list (pe_c (cal_spots_of T) hr (by decide) (by rfl) (pa_cons (pe_op op_xorN (pe_c (cal_all_on T) hr (by decide) (by rfl) (pa_cons (pv 0) pa_nil)) (pv 3)) pa_nil))) (blkOk_by (N := N_parts_of) (sc := defScope s_parts_of) (by decide +kernel)) (fun _ _ _ _ _ => (pg_name (i := 6) sc_parts_of.nd rfl (.inl rfl))) (fun _ _ _ _ _ => pts_nil) (fun _ _ _ _ _ => (pe_lst (pa_cons (pv 6) pa_nil))))
      (pss_one (ps_ret (pe_callB (cr_sortedD hr.units) (by rfl) T.b_sorted bt_sorted (pa_cons (pe_op op_cat (pe_lc (own := [("mask", 4)]) (by rfl) sc_parts_of.nd (pi_list (pv 2)) (blkOk_by (N := N_parts_of) (sc := defScope s_parts_of) (by decide +kernel)) (fun _ _ _ _ _ => (pg_name (i := 4) sc_parts_of.nd rfl (.inl rfl))) (fun _ _ _ _ _ => pts_nil) (fun _ _ _ _ _ => (pe_c (cal_spots_of T) hr (by decide) (by rfl) (pa_cons (pv 4) pa_nil)))) (pv 5)) pa_nil))))))), ?_⟩
    have hml := Ow.masksOf_len B
    refine ⟨_, rfl, a, B, rfl, hS, by omega, fun H1 m s1 hm => ⟨_, _, rfl, ?_⟩⟩
    refine ⟨_, rfl, m, rfl, ⟨_, sqL_new hm⟩, for_list (K := K) (a := m) (xs := vL (Ow.masksOf B)) (fun i σ H' => H' = H1 ∧ ∃ y, σ = [some (vN n), some (.ref a), some (.ref m), some (vN (Ow.union ((Ow.masksOf B).take i))), y, none, none]) ⟨rfl, _, rfl⟩ (fun i σ H' _ h => by rw [h.1]; exact sqL_new hm) ?_ ?_⟩
    · rintro i x σ H2 hx ⟨rfl, y, rfl⟩
      obtain ⟨c, hc, rfl⟩ := vL_get hx
      refine ⟨_, rfl, _, rfl, _, _, rfl, rfl, rfl, some (vN c), ?_⟩
      have eu : Ow.union ((Ow.masksOf B).take i ++ [c]) = Ow.union ((Ow.masksOf B).take i) ||| c := by unfold Ow.union; rw [List.foldl_append]; rfl
      rw [take_succ hc, eu]
      rfl
    · rintro σ H2 ⟨rfl, y, rfl⟩
      rw [vL_length, List.take_length]
      refine ⟨_, rfl, n, rfl, by omega, _, rfl, _, _, rfl, rfl, _, rfl, fun H3 u _ s3 hu => ?_⟩
      have hsl : ∀ x, (Ow.spots x).length ≤ 24 := fun x => Nat.le_trans (List.length_filter_le _ _) (by rw [List.length_range]; exact Nat.le_refl _)
      refine ⟨u, rfl, ⟨_, sqL_new hu⟩, fun D hD => lcGL (fun _ => true) (fun b y H => ∃ q, y = .ref q ∧ q ≠ D ∧ H q = some (.lst (vL [b]))) hD (sqL_new hu) (small (Nat.le_trans (hsl _) (by decide))) (fun b y H H' ⟨q, e, ne, h⟩ bt => ⟨q, e, ne, bt _ _ h ne⟩) ?_ ?_⟩
      · intro b H4 Qn Qs hb s ⟨acc, hacc⟩ k1 k2
        refine ⟨rfl, _, rfl, (by decide : 1 ≤ sizeLine), fun t ht => ?_⟩
        exact k1 rfl _ _ (same_upd ht) ⟨t, rfl, (fun e => by subst e; rw [hacc] at ht; cases ht), upd_same⟩
      · intro H4 ys s4 hy pr
        rw [List.filter_eq_self.mpr fun _ _ => rfl] at pr
        refine ⟨_, rfl, m, rfl, ⟨_, sqL_new (s4 _ _ (s3 _ _ hm))⟩, fun D2 hD2 => lcGL (fun _ => true) (fun b y H => ∃ q, y = .ref q ∧ q ≠ D2 ∧ H q = some (.lst (vL (Ow.spots b)))) hD2 (sqL_new (s4 _ _ (s3 _ _ hm))) (small (by omega)) (fun b y H H' ⟨q, e, ne, h⟩ bt => ⟨q, e, ne, bt _ _ h ne⟩) ?_ ?_⟩
        · intro b H5 Qn Qs hb s ⟨acc, hacc⟩ k1 k2
          refine ⟨rfl, _, rfl, _, rfl, fun H6 t nt s6 ht => ?_⟩
          exact k1 rfl _ _ s6 ⟨t, rfl, (fun e => by subst e; rw [hacc] at nt; cases nt), ht⟩
        · intro H5 zs s5 hz pz
          rw [List.filter_eq_self.mpr fun _ _ => rfl] at pz
          have l1 := Paired.length' pr
          have l2 := Paired.length' pz
          have hsl2 := hsl ((2 ^ n - 1) ^^^ Ow.union (Ow.masksOf B))
          refine ⟨_, rfl, D2, D, _, _, rfl, rfl, hz, s5 _ _ hy, small' (by omega), fun c hc => ?_⟩
          have s6 : Same H4 (upd H5 c (.lst (zs ++ ys))) := s5.trans (same_upd hc)
          have pa : Paired (fun l y => LstAt (upd H5 c (.lst (zs ++ ys))) l y) (partsL n B) (zs ++ ys) := by
            refine Paired.append (Paired.map_left ?_) (Paired.map_left ?_)
            · exact Paired.mono pz fun b y ⟨q, e, _, h⟩ => ⟨q, e, (same_upd hc) _ _ h⟩
            · exact Paired.mono pr fun b y ⟨q, e, _, h⟩ => ⟨q, e, s6 _ _ h⟩
          refine ⟨c, _, (partsL n B).map listD, rfl, sqL_new upd_same, dp_lists pa, lists_alike _, lists_sortable _, lists_depth _, fun xs p hp hp2 => ?_⟩
          obtain ⟨LL, pl, pr2⟩ := Paired.permute hp pa
          exact q _ p xs LL (s1.trans (s3.trans (s4.trans (s6.trans (same_upd hp2))))) upd_same (Paired.mono pr2 fun b y ⟨q, e, h⟩ => ⟨q, e, (same_upd hp2) _ _ h⟩) pl
abbrev N_marks_of : List Str := ["places", "basis", "sizes", "spots", "word"]
theorem sc_marks_of : FnScope N_marks_of ["places", "basis"] (defScope s_marks_of) := ⟨rfl, rfl, rfl, by decide +kernel, rfl, by decide +kernel, by decide +kernel⟩
def sp_marks_of (K : PySem.W.Frag) : Sp := fun vs H Q _ => ∃ (a : Addr) (n : Nat) (B : List Nat), vs = [vN n, .ref a] ∧ SqT K H a (vL B) ∧ B.length ≤ 5 ∧ (∀ b ∈ B, b < 2 ^ 24) ∧ n ≤ 24 ∧
  ∀ (H' : Hp) (p l1 l2 : Addr), Same H H' → H' p = some (.tup [.ref l1, .ref l2]) → H' l1 = some (.lst (vL (Ow.upN ((Ow.span B).map Ow.wt)))) → H' l2 = some (.lst (vL (Ow.sizesOf n B))) → Q (.ref p) H'
theorem cal_marks_of (T : Tx K mg) : Cal P w K mg base 3 "marks_of" (sp_marks_of K) := by
  refine calD (ps := ["places", "basis"]) T.f_marks_of (fun _ _ _ _ _ _ us hl => match us, hl with | [_, _], _ => rfl) sc_marks_of (fun vs H Q E h => ?_) (fun cdv A outer s H vs Q E hr h => ?_)
  · obtain ⟨a, n, B, rfl, _⟩ := h
    rfl
  · obtain ⟨a, n, B, rfl, hS, hl, h24, hn, q⟩ := h
    refine ⟨_, (pss_cons (ps_setLc (i := 2) (own := [("spots", 3)]) (by rfl) sc_marks_of.nd rfl rfl (sw_true rfl rfl rfl (by decide +kernel)) (pi_list (pe_c (cal_parts_of T) hr (by decide) (by rfl) (pa_cons (pv 0) (pa_cons (pv 1) pa_nil)))) (blkOk_by (N := N_marks_of) (sc := defScope s_marks_of) (by decide +kernel)) (fun _ _ _ _ _ => (pg_name (i := 3) sc_marks_of.nd rfl (.inl rfl))) (fun _ _ _ _ _ => pts_nil) (fun _ _ _ _ _ => (pe_callB (r := rLenQ K) call_lenQ (by rfl) T.b_len bt_len (pa_cons (pv 3) pa_nil))))
      (pss_one (ps_ret (pe_tup (pa_cons (pe_callB cr_sortedN (by rfl) T.b_sorted bt_sorted (pa_cons (pe_lc (own := [("word", 4)]) (by rfl) sc_marks_of.nd (pi_list (pe_c (cal_all_words T) hr (by decide) (by rfl) (pa_cons (pv 1) pa_nil))) (blkOk_by (N := N_marks_of) (sc := defScope s_marks_of) (by decide +kernel)) (fun _ _ _ _ _ => (pg_name (i := 4) sc_marks_of.nd rfl (.inl rfl))) (fun _ _ _ _ _ => pts_nil) (fun _ _ _ _ _ => (pe_c (cal_weight_of T) hr (by decide) (by rfl) (pa_cons (pv 4) pa_nil)))) pa_nil)) (pa_cons (pe_callB cr_sortedN (by rfl) T.b_sorted bt_sorted (pa_cons (pv 2) pa_nil)) pa_nil)))))), ?_⟩
    have hml := Ow.masksOf_len B
    have hsl : ∀ x, (Ow.spots x).length ≤ 24 := fun x => Nat.le_trans (List.length_filter_le _ _) (by rw [List.length_range]; exact Nat.le_refl _)
    refine ⟨_, rfl, _, rfl, a, n, B, rfl, hS, by omega, hn, fun H1 p ys LL s1 hp pr pl => ?_⟩
    have hLL : LL.length ≤ 29 := by
      rw [pl.length_eq, partsL, List.length_append, List.length_map, List.length_map]
      have := hsl ((2 ^ n - 1) ^^^ Ow.union (Ow.masksOf B))
      omega
    refine ⟨p, rfl, ⟨_, sqL_new hp⟩, fun D hD => lcGW walk_list LL (fun _ => true) (fun l y _ => y = vN l.length) (Paired.length' pr) hD (fun H s => sqL_new (s _ _ hp)) (small (by omega)) pure_stays ?_ ?_⟩
    · rintro i l x H2 H3 Qn Qs hb s2 ⟨rfl, hx⟩ acc k1 k2
      obtain ⟨q1, rfl, hq1⟩ := Paired.at pr hb hx
      refine ⟨rfl, _, rfl, q1, _, rfl, .inl (sqL_new (s2 _ _ hq1)), ?_⟩
      exact k1 rfl _ _ (Same.refl _) (congrArg (fun z : Nat => vN z) (vL_length l))
    · intro H2 zs s2 hz pz
      have ez := Paired.eq_map pz
      rw [List.filter_eq_self.mpr fun _ _ => rfl] at ez
      subst ez
      have hz2 : H2 D = some (.lst (vL (LL.map fun l => l.length))) := by rw [hz, vL_map]
      refine ⟨_, rfl, a, B, rfl, .inr ((s1.trans s2).tup hS), by omega, fun H3 r s3 hr3 => ?_⟩
      have hsp : (Ow.span B).length ≤ 32 := by
        rw [Ow.length_span]
        exact Nat.le_trans (Nat.pow_le_pow_right (by decide) hl) (by decide)
      refine ⟨r, rfl, ⟨_, sqL_new hr3⟩, fun E hE => lcGL (fun _ => true) (fun b y _ => y = vN (Ow.wt b)) hE (sqL_new hr3) (small (by omega)) pure_stays ?_ ?_⟩
      · intro b H4 Qn Qs hb s _ k1 k2
        exact ⟨rfl, _, rfl, b, rfl, Ow.span_lt h24 hb, k1 rfl _ _ (Same.refl _) rfl⟩
      · intro H4 ws s4 hw pw
        have ew := Paired.eq_map pw
        rw [List.filter_eq_self.mpr fun _ _ => rfl] at ew
        subst ew
        refine ⟨E, (Ow.span B).map Ow.wt, rfl, sqL_new (by rw [hw, vL_map]), by rw [List.length_map]; omega, fun l1 hl1 => ?_⟩
        have hz5 := (same_upd (o := .lst (vL (Ow.upN ((Ow.span B).map Ow.wt)))) hl1) _ _ (s4 _ _ (s3 _ _ hz2))
        refine ⟨_, rfl, D, LL.map fun l => l.length, rfl, sqL_new hz5, by rw [List.length_map]; omega, fun l2 hl2 => ?_⟩
        refine ⟨(by decide : 2 ≤ sizeLine), fun t ht => ?_⟩
        have es : Ow.upN (LL.map fun l => l.length) = Ow.sizesOf n B := by
          unfold Ow.sizesOf
          refine Ow.upN_congr.mpr ((pl.map _).trans (List.Perm.of_eq ?_))
          rw [partsL, List.map_append, List.map_map, List.map_map]
          congr 1
          exact List.map_congr_left fun b _ => Ow.spots_length b
        refine q _ t l1 l2 (s1.trans (s2.trans (s3.trans (s4.trans ((same_upd hl1).trans ((same_upd hl2).trans (same_upd ht))))))) upd_same ?_ ?_
        · exact (same_upd ht) _ _ ((same_upd hl2) _ _ upd_same)
        · rw [← es]
          exact (same_upd ht) _ _ upd_same
end
end Oc
set_option Elab.async false
set_option linter.all false
set_option maxRecDepth 100000
set_option maxHeartbeats 4000000
namespace Oc
open PySem PySem.Spec PyProof.Rows L2
/-! lists of naturals compared -/
theorem eqvAll_ints : ∀ xs ys : List Nat, PyData.eqvAll (xs.map intD) (ys.map intD) = decide (xs = ys)
  | [], [] => by simp [PyData.eqvAll]
  | [], _ :: _ => by simp [PyData.eqvAll]
  | _ :: _, [] => by simp [PyData.eqvAll]
  | x :: xs, y :: ys => by
    rw [List.map_cons, List.map_cons]
    simp only [PyData.eqvAll, PyData.eqv, eqvAll_ints xs ys]
    have e : ((x : Int) == (y : Int)) = decide (x = y) := by
      by_cases h : x = y
      · subst h; simp
      · rw [decide_eq_false h]
        exact beq_eq_false_iff_ne.mpr (by omega)
    rw [e, ← Bool.decide_and]
    exact dec_iff (by rw [List.cons.injEq])
theorem eqv_list (xs ys : List Nat) : PyData.eqv (listD xs) (listD ys) = decide (xs = ys) := by
  unfold listD
  simp only [PyData.eqv]
  exact eqvAll_ints xs ys
theorem canLay_ints : ∀ xs : List Nat, PyData.canLayAll0 (xs.map intD) = true
  | [] => by simp [PyData.canLayAll0]
  | x :: xs => by
    rw [List.map_cons]
    simp only [PyData.canLayAll0, PyData.canLay0, canLay_ints xs]
    rfl
theorem canLay_list (xs : List Nat) : PyData.canLay0 (listD xs) = true := by
  unfold listD
  simp only [PyData.canLay0]
  exact canLay_ints xs
theorem shaped_of {d : PyData} (h1 : PyData.canLay0 d = true) (h2 : d.depth ≤ 64) : SeqAt.shaped d = true := Bool.and_eq_true_iff.mpr ⟨h1, decide_eq_true h2⟩
theorem shaped_list (xs : List Nat) : SeqAt.shaped (listD xs) = true := shaped_of (canLay_list xs) (Nat.le_trans (listD_depth xs) (by decide))
def rEqL : R2 := fun x y H Q => ∃ (a b : Addr) (xs ys : List Nat), x = .ref a ∧ y = .ref b ∧ H a = some (.lst (vL xs)) ∧ H b = some (.lst (vL ys)) ∧ Q (.bl (decide (xs = ys))) H
def rNeL : R2 := fun x y H Q => ∃ (a b : Addr) (xs ys : List Nat), x = .ref a ∧ y = .ref b ∧ H a = some (.lst (vL xs)) ∧ H b = some (.lst (vL ys)) ∧ Q (.bl (!decide (xs = ys))) H
section
variable {X : Cx}
theorem op_eqL (hu : X.A.units + 64 < cLine) : OpR X (compareOp .Eq) rEqL := by
  intro pins s σ H x y v u Q I rx ry hh
  obtain ⟨a, b, xs, ys, rfl, rfl, ha, hb, q⟩ := hh
  exact op_eqD hu pins s σ H _ _ v u Q I rx ry ⟨_, _, dp_list ha, dp_list hb, shaped_list xs, shaped_list ys, by rw [eqv_list]; exact q⟩
theorem op_neL (hu : X.A.units + 64 < cLine) : OpR X (compareOp .NotEq) rNeL := by
  intro pins s σ H x y v u Q I rx ry hh
  obtain ⟨a, b, xs, ys, rfl, rfl, ha, hb, q⟩ := hh
  exact op_neD hu pins s σ H _ _ v u Q I rx ry ⟨_, _, dp_list ha, dp_list hb, shaped_list xs, shaped_list ys, by rw [eqv_list]; exact q⟩
end
/-! words gathered by a key in a dict -/
abbrev kN (k : Nat) : Key := Sum.inl (k : Int)
def GroupAt (H5 H' : Hp) (sm : Addr) (key : Nat → Nat) (l : List Nat) : Prop := ∃ kvs : List (Key × V), H' sm = some (.dK kvs) ∧ kvs.length ≤ l.length ∧
  (∀ k : Nat, (valV kvs (kN k) = none ∧ (l.filter fun x => key x == k) = []) ∨ ∃ a, valV kvs (kN k) = some (.ref a) ∧ H5 a = none ∧ a ≠ sm ∧ H' a = some (.lst (vL (l.filter fun x => key x == k)))) ∧
  ∀ (k k' : Nat) (a : Addr), valV kvs (kN k) = some (.ref a) → valV kvs (kN k') = some (.ref a) → k = k'
theorem kN_inj {k k' : Nat} (h : kN k = kN k') : k = k' := by
  have := Sum.inl.inj h
  omega
theorem putK_length_le {κ : Type} [DecidableEq κ] (kvs : List (κ × V)) (k : κ) (v : V) : (putK kvs k v).length ≤ kvs.length + 1 := by
  unfold putK
  split
  · rw [List.length_map]; omega
  · rw [List.length_append]; exact Nat.le_refl _
theorem filt_snoc {l : List Nat} {x k : Nat} {key : Nat → Nat} : ((l ++ [x]).filter fun y => key y == k) = (l.filter fun y => key y == k) ++ if key x = k then [x] else [] := by
  rw [List.filter_append]
  by_cases h : key x = k
  · rw [if_pos h, filt1_yes (by simpa using h)]
  · rw [if_neg h, filt1_no (by simpa using h)]
section
variable {H5 H' : Hp} {sm : Addr} {key : Nat → Nat} {l : List Nat}
/-- the next word's list is there -/
theorem group_old {kvs : List (Key × V)} {x : Nat} {a z : Addr} (e : H' sm = some (.dK kvs)) (hl : kvs.length ≤ l.length)
    (hv : ∀ k : Nat, (valV kvs (kN k) = none ∧ (l.filter fun x => key x == k) = []) ∨ ∃ a, valV kvs (kN k) = some (.ref a) ∧ H5 a = none ∧ a ≠ sm ∧ H' a = some (.lst (vL (l.filter fun x => key x == k))))
    (hi : ∀ (k k' : Nat) (a : Addr), valV kvs (kN k) = some (.ref a) → valV kvs (kN k') = some (.ref a) → k = k') (hz : H' z = none) (hx : valV kvs (kN (key x)) = some (.ref a)) (bt : But sm H5 H') {o : HO} (hs : H5 sm = some o) :
    ∃ xs, (upd H' z (.lst [])) a = some (.lst (vL xs)) ∧ xs.length ≤ l.length ∧ GroupAt H5 (upd (upd H' z (.lst [])) a (.lst (vL xs ++ [vN x]))) sm key (l ++ [x]) ∧ But sm H5 (upd (upd H' z (.lst [])) a (.lst (vL xs ++ [vN x]))) := by
  rcases hv (key x) with ⟨h1, _⟩ | ⟨a', h1, h2, h3, h4⟩
  · rw [hx] at h1; cases h1
  · have ea : a' = a := by rw [hx] at h1; exact (V.ref.inj (Option.some.inj h1)).symm
    subst ea
    have nz : a' ≠ z := fun c => by rw [c, hz] at h4; cases h4
    have nsz : sm ≠ z := fun c => by rw [c, hz] at e; cases e
    refine ⟨_, by rw [upd_ne nz]; exact h4, List.length_filter_le _ _, ⟨kvs, ?_, by rw [List.length_append]; omega, fun k => ?_, hi⟩, ?_⟩
    · rw [upd_ne (Ne.symm h3), upd_ne nsz]
      exact e
    · rw [filt_snoc]
      by_cases hk : key x = k
      · subst hk
        refine .inr ⟨a', h1, h2, h3, ?_⟩
        rw [upd_same, if_pos rfl, vL_append]
        rfl
      · rw [if_neg hk, List.append_nil]
        rcases hv k with q | ⟨b, q1, q2, q3, q4⟩
        · exact .inl q
        · refine .inr ⟨b, q1, q2, q3, ?_⟩
          have nb : b ≠ a' := fun c => hk (hi _ _ a' h1 (c ▸ q1))
          have nbz : b ≠ z := fun c => by rw [c, hz] at q4; cases q4
          rw [upd_ne nb, upd_ne nbz]
          exact q4
    · intro c o hc ne
      have n1 : c ≠ a' := fun q => by rw [q, h2] at hc; cases hc
      have hc' := bt c o hc ne
      have n2 : c ≠ z := fun q => by rw [q, hz] at hc'; cases hc'
      rw [upd_ne n1, upd_ne n2]
      exact hc'
/-- the next word's list is new -/
theorem group_new {kvs : List (Key × V)} {x : Nat} {z : Addr} (e : H' sm = some (.dK kvs)) (hl : kvs.length ≤ l.length)
    (hv : ∀ k : Nat, (valV kvs (kN k) = none ∧ (l.filter fun x => key x == k) = []) ∨ ∃ a, valV kvs (kN k) = some (.ref a) ∧ H5 a = none ∧ a ≠ sm ∧ H' a = some (.lst (vL (l.filter fun x => key x == k))))
    (hi : ∀ (k k' : Nat) (a : Addr), valV kvs (kN k) = some (.ref a) → valV kvs (kN k') = some (.ref a) → k = k') (hz : H' z = none) (hx : valV kvs (kN (key x)) = none) (bt : But sm H5 H') {o : HO} (hs : H5 sm = some o) :
    (upd (upd H' z (.lst [])) sm (.dK (putK kvs (kN (key x)) (.ref z)))) z = some (.lst []) ∧ GroupAt H5 (upd (upd (upd H' z (.lst [])) sm (.dK (putK kvs (kN (key x)) (.ref z)))) z (.lst ([] ++ [vN x]))) sm key (l ++ [x]) ∧
      But sm H5 (upd (upd (upd H' z (.lst [])) sm (.dK (putK kvs (kN (key x)) (.ref z)))) z (.lst ([] ++ [vN x]))) := by
  have nsz : z ≠ sm := fun c => by rw [← c, hz] at e; cases e
  have h5z : H5 z = none := by
    cases q : H5 z with
    | none => rfl
    | some o' => have := bt z o' q nsz; rw [hz] at this; cases this
  have hfil : (l.filter fun y => key y == key x) = [] := by
    rcases hv (key x) with ⟨_, h⟩ | ⟨a, h, _⟩
    · exact h
    · rw [hx] at h; cases h
  refine ⟨by rw [upd_ne nsz, upd_same], ⟨putK kvs (kN (key x)) (.ref z), by rw [upd_ne (Ne.symm nsz), upd_same], ?_, fun k => ?_, fun k k' a h1 h2 => ?_⟩, ?_⟩
  · have := putK_length_le kvs (kN (key x)) (.ref z)
    rw [List.length_append, List.length_singleton]
    omega
  · rw [valV_put, filt_snoc]
    by_cases hk : key x = k
    · subst hk
      rw [if_pos rfl, if_pos rfl, hfil]
      refine .inr ⟨z, rfl, h5z, nsz, ?_⟩
      rw [upd_same]
      rfl
    · rw [if_neg fun c => hk (kN_inj c).symm, if_neg hk, List.append_nil]
      rcases hv k with q | ⟨b, q1, q2, q3, q4⟩
      · exact .inl q
      · refine .inr ⟨b, q1, q2, q3, ?_⟩
        have nbz : b ≠ z := fun c => by rw [c, hz] at q4; cases q4
        rw [upd_ne nbz, upd_ne q3, upd_ne nbz]
        exact q4
  · rw [valV_put] at h1 h2
    have key0 : ∀ k, valV kvs (kN k) = some (.ref z) → False := fun k h => by
      rcases hv k with ⟨q, _⟩ | ⟨b, q1, _, _, q4⟩
      · rw [q] at h; cases h
      · rw [q1] at h
        have : b = z := V.ref.inj (Option.some.inj h)
        rw [this, hz] at q4
        cases q4
    by_cases g1 : kN k = kN (key x)
    · rw [if_pos g1] at h1
      have ez : z = a := V.ref.inj (Option.some.inj h1)
      subst ez
      by_cases g2 : kN k' = kN (key x)
      · rw [kN_inj g1, kN_inj g2]
      · rw [if_neg g2] at h2
        exact (key0 _ h2).elim
    · rw [if_neg g1] at h1
      by_cases g2 : kN k' = kN (key x)
      · rw [if_pos g2] at h2
        have ez : z = a := V.ref.inj (Option.some.inj h2)
        subst ez
        exact (key0 _ h1).elim
      · rw [if_neg g2] at h2
        exact hi _ _ _ h1 h2
  · intro c o hc ne
    have n1 : c ≠ z := fun q => by rw [q, h5z] at hc; cases hc
    rw [upd_ne n1, upd_ne ne, upd_ne n1]
    exact bt c o hc ne
theorem group_start (e : H5 sm = some (.dK [])) : GroupAt H5 H5 sm key [] := ⟨[], e, Nat.le_refl _, fun k => .inl ⟨rfl, rfl⟩, fun k k' a h => nomatch h⟩
end
end Oc
set_option Elab.async false
set_option linter.all false
set_option maxRecDepth 100000
set_option maxHeartbeats 4000000
namespace Oc
open PySem PySem.Spec PyProof.Rows L2
abbrev searF (g s : Addr) : List (Str × V) := [("own_goals", .ref g), ("own_some", .ref s)]
theorem ne3 : ¬ (("own_goals" : Str) = "own_some") := by decide +kernel
theorem put4 (g s : Addr) : putF "own_some" (.ref s) (putF "own_goals" (.ref g) []) = searF g s := by
  show (if ("own_goals" : Str) = "own_some" then _ else (("own_goals" : Str), V.ref g) :: [(("own_some" : Str), V.ref s)]) = searF g s
  rw [if_neg ne3]
theorem lk5 (g s : Addr) : (searF g s).lookup ("own_goals" : Str) = some (.ref g) := by rw [← put4, lookup_putF, if_neg ne3, lookup_putF, if_pos rfl]
theorem lk6 (g s : Addr) : (searF g s).lookup ("own_some" : Str) = some (.ref s) := by rw [← put4, lookup_putF, if_pos rfl]
/-- the goals: each basis word's weight with the sorted ways behind it -/
def GoalsAt (H : Hp) (D : Addr) (gs : List V) (n : Nat) (bs : List Nat) (i : Nat) : Prop := ∀ j b, j < i → bs[j]? = some b → ∃ t l, gs[j]? = some (.ref t) ∧ t ≠ D ∧ l ≠ D ∧ H t = some (.tup [vN (Ow.wt b), .ref l]) ∧ H l = some (.lst (vL (Ow.upN (Ow.waysN n (bs.take (j + 1))))))
theorem GoalsAt.but {H H' : Hp} {D : Addr} {gs : List V} {n : Nat} {bs : List Nat} {i : Nat} (h : GoalsAt H D gs n bs i) (b : But D H H') : GoalsAt H' D gs n bs i := fun j c hj hc => by
  obtain ⟨t, l, h1, h2, h3, h4, h5⟩ := h j c hj hc
  exact ⟨t, l, h1, h2, h3, b _ _ h4 h2, b _ _ h5 h3⟩
/-- a Search stands at p -/
def SearchAt (K : PySem.W.Frag) (H : Hp) (p : Addr) (n : Nat) (bs C : List Nat) : Prop := ∃ (dx g s : Addr) (gs : List V) (kvs : List (Key × V)), H p = some (.ins (CA K "Search") dx (searF g s)) ∧ H g = some (.lst gs) ∧ gs.length = bs.length ∧ GoalsAt H p gs n bs bs.length ∧
  H s = some (.dK kvs) ∧ ∀ k : Nat, (valV kvs (kN k) = none ∧ (C.filter fun x => Ow.wt x == k) = []) ∨ ∃ a, valV kvs (kN k) = some (.ref a) ∧ H a = some (.lst (vL (C.filter fun x => Ow.wt x == k)))
theorem SearchAt.same {K : PySem.W.Frag} {H H' : Hp} {p : Addr} {n : Nat} {bs C : List Nat} (h : SearchAt K H p n bs C) (s : Same H H') : SearchAt K H' p n bs C := by
  obtain ⟨dx, g, sm, gs, kvs, h1, h2, h3, h4, h5, h6⟩ := h
  refine ⟨dx, g, sm, gs, kvs, s _ _ h1, s _ _ h2, h3, h4.but s.but, s _ _ h5, fun k => ?_⟩
  rcases h6 k with q | ⟨a, q1, q2⟩
  · exact .inl q
  · exact .inr ⟨a, q1, s _ _ q2⟩
section
variable {P : Program} {w : World} {K : PySem.W.Frag} {mg : Str → Option Value} {base : Heap}
abbrev N_Search_init : List Str := ["self", "places", "basis", "others", "ways", "found", "word"]
theorem sc_Search_init : FnScope N_Search_init ["self", "places", "basis", "others"] (defScope s_Search_init) := ⟨rfl, rfl, rfl, by decide +kernel, rfl, by decide +kernel, by decide +kernel⟩
def sp_Search (K : PySem.W.Frag) : Sp := fun vs H Q _ => ∃ (p dx bl ot : Addr) (n : Nat) (bs O : List Nat), vs = [.ref p, vN n, .ref bl, .ref ot] ∧ H p = some (.ins (CA K "Search") dx []) ∧ SqL K H bl (vL bs) ∧ SeqA K H ot (vL O) ∧ O.length ≤ 5 ∧ bs.length ≤ 5 ∧ n ≤ 24 ∧
  (∀ b ∈ bs, b < 2 ^ 24) ∧ (∀ b ∈ O, b < 2 ^ 24) ∧ ∀ H', (∀ c o, H c = some o → c ≠ p → H' c = some o) → SearchAt K H' p n bs (Ow.span O) → Q .non H'
theorem seq_but {K : PySem.W.Frag} {H H' : Hp} {a p : Addr} {xs : List V} {C dx : Addr} {fs : List (Str × V)} (hp : H p = some (.ins C dx fs)) (h : SeqA K H a xs) (s : ∀ c o, H c = some o → c ≠ p → H' c = some o) : SeqA K H' a xs := by
  rcases h with h | h
  · rcases h with (h | ⟨ob, h⟩) | h
    · exact .inl (.inl (.inl (s _ _ h fun e => by subst e; rw [hp] at h; cases h)))
    · exact .inl (.inl (.inr ⟨ob, s _ _ h fun e => by subst e; rw [hp] at h; cases h⟩))
    · exact .inl (.inr h)
  · exact .inr (tup_but hp (fun _ e => by cases e) (fun _ _ e => by cases e) h s)
theorem mak_Search (T : Tx K mg) : Mak P w K mg base 2 "Search" (CA K "Search") (sp_Search K) := by
  refine makD (ps := ["self", "places", "basis", "others"]) T.f_Search_init T.mk_Search T.g_Search (fun _ _ _ _ _ _ us hl => match us, hl with | [_, _, _, _], _ => rfl) sc_Search_init (fun vs H Q E h => ?_) (fun cdv A outer s H vs Q E hr h => ?_)
  · obtain ⟨p, dx, bl, ot, n, bs, O, rfl, _⟩ := h
    rfl
  · obtain ⟨p, dx, bl, ot, n, bs, O, rfl, hp, hbl, hot, hO5, hb5, hn, hb24, hO24, q⟩ := h
    refine ⟨_, (pss_cons (ps_par (i := 4) (j := 5) (by rfl) sc_Search_init.nd rfl rfl (by decide) rfl rfl (pa_cons (pe_op op_rep (pe_lst (pa_cons pe_int pa_nil)) (pv 1)) (pa_cons (pe_lst pa_nil) pa_nil)) (by rfl))
      (pss_cons (ps_for PassesOwn.never rfl (pi_list (pv 2)) (pg_name (i := 6) sc_Search_init.nd rfl (.inl rfl))
        (pss_cons (ps_set (i := 4) sc_Search_init.nd rfl (.inl rfl) (pe_c (cal_with_way T) hr (by decide) (by rfl) (pa_cons (pv 4) (pa_cons (pv 6) pa_nil))))
        (pss_one (ps_expr (pe_bm PySem.F.plainAttrs_list PySem.F.slot_list_append PySem.F.type_list_append mt_append (pv 5) (pa_cons (pe_tup (pa_cons (pe_c (cal_weight_of T) hr (by decide) (by rfl) (pa_cons (pv 6) pa_nil)) (pa_cons (pe_callB cr_sortedN (by rfl) T.b_sorted bt_sorted (pa_cons (pv 4) pa_nil)) pa_nil))) pa_nil))))))
      (pss_cons (ps_fld (pv 0) (pv 5) rfl)
      (pss_cons (ps_fld (pv 0) pe_dnewK rfl)
      (pss_one (ps_for PassesOwn.never rfl (pi_list (pe_c (cal_all_words T) hr (by decide) (by rfl) (pa_cons (pv 3) pa_nil))) (pg_name (i := 6) sc_Search_init.nd rfl (.inl rfl))
        (pss_one (ps_expr (pe_bm PySem.F.plainAttrs_list PySem.F.slot_list_append PySem.F.type_list_append mt_append (pe_dsetd (pe_fld (pv 0) rfl) (pe_c (cal_weight_of T) hr (by decide) (by rfl) (pa_cons (pv 6) pa_nil)) (pe_lst pa_nil) ⟨by rfl, by rfl, by rfl, by rfl⟩) (pa_cons (pv 6) pa_nil)))))))))), ?_⟩
    refine ⟨by decide, fun z hz => ?_⟩
    refine ⟨_, rfl, z, _, _, rfl, rfl, upd_same, by omega, by omega, small' (by simp; omega), fun w0 hw0 => ?_⟩
    refine ⟨Nat.zero_le _, fun f hf => ⟨_, _, rfl, ?_⟩⟩
    have s0 : Same H (upd (upd (upd H z (.lst [.int 0])) w0 (.lst (List.replicate ((n : Int)).toNat [V.int 0]).flatten)) f (.lst [])) := (same_upd hz).trans ((same_upd hw0).trans (same_upd hf))
    have e0 : (upd (upd (upd H z (.lst [.int 0])) w0 (.lst (List.replicate ((n : Int)).toNat [V.int 0]).flatten)) f (.lst [])) w0 = some (.lst (vL (Ow.waysN n []))) := by
      refine (same_upd hf) _ _ ?_
      rw [upd_same, Int.toNat_natCast, ways_nil]
    have nf : H f = none := none_of_same ((same_upd hz).trans (same_upd hw0)) hf
    refine ⟨_, rfl, bl, rfl, ⟨_, s0.seq hbl⟩, for_list (K := K) (a := bl) (xs := vL bs) (fun i σ H' => Same H H' ∧ ∃ wy gs y6, σ = [some (.ref p), some (vN n), some (.ref bl), some (.ref ot), some (.ref wy), some (.ref f), y6] ∧ H' wy = some (.lst (vL (Ow.waysN n (bs.take i)))) ∧ H' f = some (.lst gs) ∧ wy ≠ f ∧ gs.length = min i bs.length ∧ GoalsAt H' f gs n bs i ∧ GoalsAt H' p gs n bs i) ?_ (fun i σ H' _ h => h.1.seq hbl) ?_ ?_⟩
    · exact ⟨s0, w0, [], none, rfl, e0, upd_same, ne_of_none upd_same hf, by simp, fun j b hj => absurd hj (Nat.not_lt_zero j), fun j b hj => absurd hj (Nat.not_lt_zero j)⟩
    · rintro i x σ H1 hx ⟨s1, wy, gs, y6, rfl, h1, h2, h3, h4, h5, h5p⟩
      obtain ⟨b, hb, rfl⟩ := vL_get hx
      have hbm : b ∈ bs := List.mem_of_getElem? hb
      have hil : i < bs.length := (List.getElem?_eq_some_iff.mp hb).1
      refine ⟨_, rfl, _, rfl, wy, n, b, bs.take i, rfl, sqL_new h1, hn, fun H2 wy2 nw s2 hw2 => ?_⟩
      have hf2 := s2 _ _ h2
      refine ⟨_, rfl, .inl ⟨rfl, _, sqL_new hf2⟩, _, rfl, b, rfl, hb24 b hbm, _, rfl, wy2, _, rfl, sqL_new hw2, by rw [Ow.waysN_length]; omega, fun l hl => ?_⟩
      refine ⟨(by decide : 2 ≤ sizeLine), fun t ht => ?_⟩
      have s4 : Same H2 (upd (upd H2 l (.lst (vL (Ow.upN (Ow.waysN n (bs.take i ++ [b])))))) t (.tup [vN (Ow.wt b), .ref l])) := (same_upd hl).trans (same_upd ht)
      refine ⟨f, gs, _, rfl, rfl, s4 _ _ hf2, small (by omega), ?_⟩
      have hpk : H p ≠ none := by rw [hp]; exact fun h => nomatch h
      have keepF : ∀ c o, (upd (upd H2 l (.lst (vL (Ow.upN (Ow.waysN n (bs.take i ++ [b])))))) t (.tup [vN (Ow.wt b), .ref l])) c = some o → c ≠ f → (upd (upd (upd H2 l (.lst (vL (Ow.upN (Ow.waysN n (bs.take i ++ [b])))))) t (.tup [vN (Ow.wt b), .ref l])) f (.lst (gs ++ [.ref t]))) c = some o := fun c o e ne => by rw [upd_ne ne]; exact e
      have nwf : wy2 ≠ f := fun e => by rw [e, h2] at nw; cases nw
      have ntf : t ≠ f := fun e => by rw [e, (same_upd hl) _ _ hf2] at ht; cases ht
      have nlf : l ≠ f := fun e => by rw [e, hf2] at hl; cases hl
      have hp2 := s2 _ _ (s1 _ _ hp)
      have ntp : t ≠ p := fun e => by rw [e, (same_upd hl) _ _ hp2] at ht; cases ht
      have nlp : l ≠ p := fun e => by rw [e, hp2] at hl; cases hl
      have goals : ∀ D, D ≠ l → D ≠ t → GoalsAt H1 D gs n bs i → (∀ j b, j < i → bs[j]? = some b → ∃ t l, gs[j]? = some (.ref t) ∧ t ≠ f ∧ l ≠ f) → GoalsAt (upd (upd (upd H2 l (.lst (vL (Ow.upN (Ow.waysN n (bs.take i ++ [b])))))) t (.tup [vN (Ow.wt b), .ref l])) f (.lst (gs ++ [.ref t]))) D (gs ++ [.ref t]) n bs (i + 1) := by
        intro D nDl nDt hG _ j c hj hc
        by_cases hji : j < i
        · obtain ⟨t', l', g1, g2, g3, g4, g5⟩ := hG j c hji hc
          obtain ⟨t'', l'', k1, k2, k3, k4, k5⟩ := h5 j c hji hc
          have et : t' = t'' := V.ref.inj (Option.some.inj (g1.symm.trans k1))
          subst et
          have el : l' = l'' := by
            rw [g4] at k4
            have := HO.tup.inj (Option.some.inj k4)
            have := (List.cons.inj (List.cons.inj this).2).1
            exact V.ref.inj this
          subst el
          refine ⟨t', l', ?_, g2, g3, keepF _ _ (s4 _ _ (s2 _ _ g4)) k2, keepF _ _ (s4 _ _ (s2 _ _ g5)) k3⟩
          rw [List.getElem?_append_left (by rw [h4]; omega)]
          exact g1
        · have ej : j = i := by omega
          subst ej
          have ec : c = b := by rw [hb] at hc; exact (Option.some.inj hc).symm
          subst ec
          refine ⟨t, l, ?_, Ne.symm nDt, Ne.symm nDl, keepF _ _ upd_same ntf, keepF _ _ ((same_upd ht) _ _ upd_same) nlf |>.trans (by rw [take_succ hb])⟩
          rw [List.getElem?_append_right (by rw [h4]; omega), show j - gs.length = 0 by rw [h4]; omega]
          rfl
      refine ⟨same_updF nf (s1.trans (s2.trans s4)), wy2, gs ++ [.ref t], _, rfl, ?_, upd_same, nwf, ?_, goals f (Ne.symm nlf) (Ne.symm ntf) h5 ?_, goals p (Ne.symm nlp) (Ne.symm ntp) h5p ?_⟩
      · rw [take_succ hb]
        exact keepF _ _ (s4 _ _ hw2) nwf
      · rw [List.length_append, List.length_singleton, h4]; omega
      · exact fun j c hj hc => by obtain ⟨t, l, g1, g2, g3, _⟩ := h5 j c hj hc; exact ⟨t, l, g1, g2, g3⟩
      · exact fun j c hj hc => by obtain ⟨t, l, g1, g2, g3, _⟩ := h5 j c hj hc; exact ⟨t, l, g1, g2, g3⟩
    · rintro σ H1 ⟨s1, wy, gs, y6, rfl, h1, h2, h3, h4, h5, h5p⟩
      rw [vL_length] at h4 h5 h5p
      refine ⟨_, rfl, _, rfl, p, _, dx, _, rfl, s1 _ _ hp, T.cl_Search, T.no_own_goals, (by decide : 0 < 1000), ?_⟩
      obtain ⟨Ha, eHa⟩ : ∃ Ha, Ha = upd H1 p (.ins (CA K "Search") dx (putF "own_goals" (.ref f) [])) := ⟨_, rfl⟩
      refine fun sm hsm => ?_
      rw [← eHa] at hsm
      have hpa : Ha p = some (.ins (CA K "Search") dx (putF "own_goals" (.ref f) [])) := by rw [eHa, upd_same]
      have nsp : sm ≠ p := fun e => by rw [e, hpa] at hsm; cases hsm
      refine ⟨_, rfl, p, _, dx, _, rfl, (by rw [upd_ne (Ne.symm nsp), ← eHa]; exact hpa), T.cl_Search, T.no_own_some, (by show 1 < 1000; decide), ?_⟩
      rw [put4, ← eHa]
      obtain ⟨Hc, eHc⟩ : ∃ Hc, Hc = upd (upd Ha sm (.dK [])) p (.ins (CA K "Search") dx (searF f sm)) := ⟨_, rfl⟩
      rw [← eHc]
      have kc : ∀ c o, H1 c = some o → c ≠ p → Hc c = some o ∧ c ≠ sm := fun c o e ne => by
        have h1 : Ha c = some o := by rw [eHa, upd_ne ne]; exact e
        have h2 : c ≠ sm := ne_of_none h1 hsm
        exact ⟨by rw [eHc, upd_ne ne, upd_ne h2]; exact h1, h2⟩
      have hcp : Hc p = some (.ins (CA K "Search") dx (searF f sm)) := by rw [eHc, upd_same]
      have hcs : Hc sm = some (.dK []) := by rw [eHc, upd_ne nsp, upd_same]
      have hfp : f ≠ p := fun e => by rw [e, s1 _ _ hp] at h2; cases h2
      have hotc : SeqA K Hc ot (vL O) := seq_but hp hot fun c o e ne => (kc c o (s1 _ _ e) ne).1
      have hsp : (Ow.span O).length ≤ 32 := by
        rw [Ow.length_span]
        exact Nat.le_trans (Nat.pow_le_pow_right (by decide) hO5) (by decide)
      refine ⟨_, rfl, ot, O, rfl, hotc, by omega, fun Hd al sd hal => ?_⟩
      have hdp := sd _ _ hcp
      have hds := sd _ _ hcs
      refine ⟨al, rfl, ⟨_, sqL_new hal⟩, for_list (K := K) (a := al) (xs := vL (Ow.span O)) (fun i σ H' => (∃ y, σ = [some (.ref p), some (vN n), some (.ref bl), some (.ref ot), some (.ref wy), some (.ref f), y]) ∧ But sm Hd H' ∧ GroupAt Hd H' sm Ow.wt ((Ow.span O).take i)) ⟨⟨_, rfl⟩, (fun c o e _ => e), group_start hds⟩ (fun i σ H' _ h => sqL_new (h.2.1 _ _ hal (fun e => by rw [e, hds] at hal; cases hal))) ?_ ?_⟩
      · rintro i x σ H2 hx ⟨⟨y, rfl⟩, bt, kvs, e, hl, hv, hi⟩
        obtain ⟨c, hc, rfl⟩ := vL_get hx
        have hcm : c ∈ Ow.span O := List.mem_of_getElem? hc
        have hl32 : ((Ow.span O).take i).length ≤ 32 := Nat.le_trans (by rw [List.length_take]; omega) hsp
        have h2p := bt _ _ hdp (Ne.symm nsp)
        refine ⟨_, rfl, p, _, _, _, _, rfl, h2p, T.cl_Search, T.no_own_some, lk6 f sm, sm, rfl, .inl ⟨kvs, .inl e⟩, _, rfl, c, rfl, Ow.span_lt hO24 hcm, Nat.zero_le _, fun z hz => ?_⟩
        have nsz : sm ≠ z := ne_of_none e hz
        refine ⟨kvs, kN (Ow.wt c), (by rw [upd_ne nsz]; exact e), rfl, small (by omega), fun v hv2 => ?_, fun hv2 => ?_⟩
        · rcases hv (Ow.wt c) with ⟨g, _⟩ | ⟨a, g, _⟩
          · rw [hv2] at g; cases g
          · rw [hv2] at g
            obtain rfl : v = .ref a := Option.some.inj g
            obtain ⟨xs, k1, k2, k3, k4⟩ := group_old e hl hv hi hz hv2 bt hds
            refine ⟨.inl ⟨rfl, _, sqL_new k1⟩, _, rfl, a, vL xs, _, rfl, rfl, k1, small (by rw [vL_length]; omega), ⟨_, rfl⟩, k4, ?_⟩
            rw [take_succ hc]
            exact k3
        · obtain ⟨k1, k3, k4⟩ := group_new e hl hv hi hz hv2 bt hds
          refine ⟨.inl ⟨rfl, _, sqL_new k1⟩, _, rfl, z, [], _, rfl, rfl, k1, small (by decide), ⟨_, rfl⟩, k4, ?_⟩
          rw [take_succ hc]
          exact k3
      · rintro σ H2 ⟨⟨y, rfl⟩, bt, kvs, e, hl, hv, hi⟩
        rw [vL_length, List.take_length] at hv
        have kf : ∀ c o, H1 c = some o → c ≠ p → H2 c = some o := fun c o e ne => by
          obtain ⟨h1, h2⟩ := kc c o e ne
          exact bt c o (sd _ _ h1) h2
        refine q H2 (fun c o e ne => kf c o (s1 _ _ e) ne) ⟨dx, f, sm, gs, kvs, bt _ _ hdp (Ne.symm nsp), kf _ _ h2 hfp, by omega, GoalsAt.but h5p kf, e, fun k => ?_⟩
        rcases hv k with g | ⟨a, g1, _, _, g4⟩
        · exact .inl g
        · exact .inr ⟨a, g1, g4⟩
end
end Oc
set_option Elab.async false
set_option linter.all false
set_option maxRecDepth 100000
set_option maxHeartbeats 4000000
namespace Oc
open PySem PySem.Spec PyProof.Rows L2
abbrev WayAt (n : Nat) (us : List Nat) (H : Hp) (w : Nat) (y : V) : Prop := ∃ r, y = .ref r ∧ H r = some (.lst (vL (Ow.waysN n (us ++ [w]))))
abbrev okBy (n : Nat) (bs us : List Nat) : Nat → Bool := fun w => decide (Ow.upN (Ow.waysN n (us ++ [w])) = Ow.upN (Ow.waysN n (bs.take (us.length + 1))))
theorem okFilter (n : Nat) (bs us C : List Nat) (b : Nat) (hb : bs[us.length]? = some b) : (C.filter (Ow.okStep n bs us)) = (C.filter fun x => Ow.wt x == Ow.wt b).filter fun w => decide (Ow.upN (Ow.waysN n (us ++ [w])) = Ow.upN (Ow.waysN n (bs.take (us.length + 1)))) := by
  rw [List.filter_filter]
  refine List.filter_congr fun w _ => ?_
  unfold Ow.okStep
  have e : bs.getD us.length 0 = b := by rw [List.getD_eq_getElem?_getD, hb]; rfl
  rw [e, Bool.and_comm]
  congr 1
  rw [Bool.eq_iff_iff, beq_iff_eq, decide_eq_true_iff]
theorem atI_some {α : Type} {xs : List α} {i : Nat} {v : α} (h : xs[i]? = some v) : atI xs ((i : Nat) : Int) = some v := by
  unfold atI ixN
  rw [if_pos (Int.natCast_nonneg i), if_pos (by have := (List.getElem?_eq_some_iff.mp h).1; omega)]
  exact h
section
variable {P : Program} {w : World} {K : PySem.W.Frag} {mg : Str → Option Value} {base : Heap}
abbrev N_Search_steps : List Str := ["self", "ways", "at", "weight", "goal", "found", "word", "later"]
theorem sc_Search_steps : FnScope N_Search_steps ["self", "ways", "at"] (defScope s_Search_steps) := ⟨rfl, rfl, rfl, by decide +kernel, rfl, by decide +kernel, by decide +kernel⟩
def sp_steps (K : PySem.W.Frag) : Sp := fun vs H Q _ => ∃ (p wy : Addr) (n : Nat) (bs C us : List Nat), vs = [.ref p, .ref wy, vN us.length] ∧ SearchAt K H p n bs C ∧ us.length < bs.length ∧ H wy = some (.lst (vL (Ow.waysN n us))) ∧ C.length ≤ 32 ∧ n ≤ 24 ∧
  ∀ (H' : Hp) (q : Addr) (zs : List V), Same H H' → H' q = some (.lst zs) → Paired (fun w y => WayAt n us H' w y) (C.filter (Ow.okStep n bs us)) zs → Q (.ref q) H'
theorem met_steps (T : Tx K mg) : Met P w K mg base 2 (CA K "Search") "steps" (sp_steps K) := by
  refine metD (C := 0) (ps := ["self", "ways", "at"]) T.f_Search_steps T.cl_Search T.m_Search_steps (fun _ _ _ _ _ _ us hl => match us, hl with | [_, _, _], _ => rfl) sc_Search_steps (fun vs H Q E h => ?_) (fun cdv A outer s H vs Q E hr h => ?_)
  · obtain ⟨p, wy, n, bs, C, us, rfl, _⟩ := h
    rfl
  · obtain ⟨p, wy, n, bs, C, us, rfl, hS, hat, hwy, hC, hn, q⟩ := h
    obtain ⟨dx, g, sm, gs, kvs, h1, h2, h3, h4, h5, h6⟩ := hS
    obtain ⟨b, hb⟩ : ∃ b, bs[us.length]? = some b := ⟨_, List.getElem?_eq_getElem hat⟩
    obtain ⟨t, l, g1, g2, g3, g4, g5⟩ := h4 us.length b hat hb
    refine ⟨_, (pss_cons (ps_asg (pe_ix ix_list (pe_fld (pv 0) rfl) (pv 2) (fun _ _ => rfl)) (pg_tup (by rfl) (pgs_cons (pg_name (i := 3) sc_Search_steps.nd rfl (.inl rfl)) (pgs_cons (pg_name (i := 4) sc_Search_steps.nd rfl (.inl rfl)) pgs_nil))))
      (pss_cons (ps_set (i := 5) sc_Search_steps.nd rfl (.inl rfl) (pe_lst pa_nil))
      (pss_cons (ps_for PassesOwn.never rfl (pi_list (pe_dget2 (hu_of hr) (pe_fld (pv 0) rfl) (pv 3) (pe_lst pa_nil) ⟨by rfl, by rfl, by rfl, by rfl⟩)) (pg_name (i := 6) sc_Search_steps.nd rfl (.inl rfl))
        (pss_cons (ps_set (i := 7) sc_Search_steps.nd rfl (.inl rfl) (pe_c (cal_with_way T) hr (by decide) (by rfl) (pa_cons (pv 1) (pa_cons (pv 6) pa_nil))))
        (pss_one (ps_if (pt_cmpR (op_eqL hr.units) (pe_callB cr_sortedN (by rfl) T.b_sorted bt_sorted (pa_cons (pv 7) pa_nil)) (pv 4) (nomark _))
          (pss_one (ps_expr (pe_bm PySem.F.plainAttrs_list PySem.F.slot_list_append PySem.F.type_list_append mt_append (pv 5) (pa_cons (pv 7) pa_nil))))
          pss_nil))))
      (pss_one (ps_ret (pv 5)))))), ?_⟩
    refine ⟨_, rfl, p, _, _, _, _, rfl, h1, T.cl_Search, T.no_own_goals, lk5 g sm, _, rfl, g, gs, _, _, rfl, rfl, sqL_new h2, (atI_some g1), ?_⟩
    refine ⟨t, _, rfl, sqT_new g4, rfl, _, _, rfl, _, _, rfl, rfl, ?_⟩
    refine ⟨Nat.zero_le _, fun f hf => ?_⟩
    have nf : ∀ {c o}, H c = some o → c ≠ f := fun e => ne_of_none e hf
    refine ⟨_, rfl, p, _, _, _, _, rfl, (same_upd hf) _ _ h1, T.cl_Search, T.no_own_some, lk6 g sm, sm, rfl, .inl ⟨kvs, .inl ((same_upd hf) _ _ h5)⟩, _, rfl, Nat.zero_le _, fun z hz => ?_⟩
    have s0 : Same H (upd (upd H f (.lst [])) z (.lst [])) := (same_upd hf).trans (same_upd hz)
    obtain ⟨la, e1, e3, e2⟩ : ∃ la, (valV kvs (kN (Ow.wt b))).getD (.ref z) = .ref la ∧ la ≠ f ∧ (upd (upd H f (.lst [])) z (.lst [])) la = some (.lst (vL (C.filter fun x => Ow.wt x == Ow.wt b))) := by
      rcases h6 (Ow.wt b) with ⟨k1, k2⟩ | ⟨a, k1, k2⟩
      · exact ⟨z, by rw [k1]; rfl, (fun e => by rw [e, upd_same] at hz; cases hz), by rw [upd_same, k2]; rfl⟩
      · exact ⟨a, by rw [k1]; rfl, nf k2, s0 _ _ k2⟩
    refine ⟨valV kvs (kN (Ow.wt b)), .inl ⟨kvs, kN (Ow.wt b), .inl (s0 _ _ h5), rfl, rfl⟩, ?_⟩
    have hlen : (C.filter fun x => Ow.wt x == Ow.wt b).length ≤ 32 := Nat.le_trans (List.length_filter_le _ _) hC
    rw [okFilter n bs us C b hb] at q
    generalize hF : (C.filter fun x => Ow.wt x == Ow.wt b) = F at *
    refine ⟨la, e1, ⟨_, sqL_new e2⟩, for_list (K := K) (a := la) (xs := vL F) (fun i σ H' => Same H H' ∧ (∃ y6 y7 zs, σ = [some (.ref p), some (.ref wy), some (vN us.length), some (vN (Ow.wt b)), some (.ref l), some (.ref f), y6, y7] ∧ H' f = some (.lst zs) ∧ zs.length ≤ i ∧
        Paired (fun w y => ∃ r, y = .ref r ∧ r ≠ f ∧ H' r = some (.lst (vL (Ow.waysN n (us ++ [w]))))) ((F.take i).filter fun w => decide (Ow.upN (Ow.waysN n (us ++ [w])) = Ow.upN (Ow.waysN n (bs.take (us.length + 1))))) zs) ∧ H' la = some (.lst (vL F)) ∧ la ≠ f) ⟨s0, ⟨none, none, [], rfl, ?_, Nat.le_refl _, .nil⟩, e2, e3⟩ (fun i σ H' _ h => sqL_new h.2.2.1) ?_ ?_⟩
    · exact (same_upd hz) _ _ upd_same
    · rintro i x σ H1 hx ⟨s1, ⟨y6, y7, zs, rfl, k1, k2, k3⟩, k4, k5⟩
      obtain ⟨c, hc, rfl⟩ := vL_get hx
      have hil : i < F.length := (List.getElem?_eq_some_iff.mp hc).1
      refine ⟨_, rfl, _, rfl, wy, n, c, us, rfl, sqL_new (s1 _ _ hwy), hn, fun H2 r nr s2 hr2 => ?_⟩
      refine ⟨_, rfl, r, _, rfl, sqL_new hr2, by rw [Ow.waysN_length]; omega, fun s hs => ?_⟩
      have s3 : Same H1 (upd H2 s (.lst (vL (Ow.upN (Ow.waysN n (us ++ [c])))))) := s2.trans (same_upd hs)
      refine ⟨_, rfl, s, l, _, _, rfl, rfl, upd_same, s3 _ _ (s1 _ _ g5), _, rfl, ite2 (fun e => ?_) fun e => ?_⟩
      · have nrf : r ≠ f := fun e => by rw [e, k1] at nr; cases nr
        refine ⟨_, rfl, .inl ⟨rfl, _, sqL_new (s3 _ _ k1)⟩, _, rfl, f, zs, _, rfl, rfl, s3 _ _ k1, small (by omega), ?_⟩
        refine ⟨same_updF hf (s1.trans s3), ⟨_, _, zs ++ [.ref r], rfl, upd_same, by rw [List.length_append, List.length_singleton]; omega, ?_⟩, by rw [upd_ne k5]; exact s3 _ _ k4, k5⟩
        rw [take_succ hc, List.filter_append, filt1_yes (p := okBy n bs us) e]
        refine Paired.snoc (Paired.mono k3 fun b y ⟨r', e1, e2, e3⟩ => ⟨r', e1, e2, by rw [upd_ne e2]; exact s3 _ _ e3⟩) ⟨r, rfl, nrf, ?_⟩
        rw [upd_ne nrf]
        exact (same_upd hs) _ _ hr2
      · refine ⟨s1.trans s3, ⟨_, _, zs, rfl, s3 _ _ k1, by omega, ?_⟩, s3 _ _ k4, k5⟩
        rw [take_succ hc, List.filter_append, filt1_no (p := okBy n bs us) (Bool.not_eq_true _ ▸ e), List.append_nil]
        exact Paired.mono k3 fun b y ⟨r', e1, e2, e3⟩ => ⟨r', e1, e2, s3 _ _ e3⟩
    · rintro σ H1 ⟨s1, ⟨y6, y7, zs, rfl, k1, k2, k3⟩, k4, k5⟩
      rw [vL_length, List.take_length] at k3
      exact ⟨_, rfl, q H1 f zs s1 k1 (Paired.mono k3 fun b y ⟨r', e1, e2, e3⟩ => ⟨r', e1, e3⟩)⟩
abbrev N_Search_ended : List Str := ["self", "ways", "at", "later", "found"]
theorem sc_Search_ended : FnScope N_Search_ended ["self", "ways", "at"] (defScope s_Search_ended) := ⟨rfl, rfl, rfl, by decide +kernel, rfl, by decide +kernel, by decide +kernel⟩
def sp_ended (K : PySem.W.Frag) (k : Nat) : Sp := fun vs H Q _ => ∃ (d : Nat) (p wy : Addr) (n : Nat) (bs C us : List Nat), d < k ∧ vs = [.ref p, .ref wy, vN us.length] ∧ SearchAt K H p n bs C ∧ us.length + d = bs.length ∧ H wy = some (.lst (vL (Ow.waysN n us))) ∧ C.length ≤ 32 ∧ n ≤ 24 ∧
  (Ow.ext n C bs d us = none → ∀ H', Same H H' → Q .non H') ∧ (∀ ws, Ow.ext n C bs d us = some ws → ∀ (H' : Hp) (q : Addr), Same H H' → H' q = some (.lst (vL (Ow.waysN n ws))) → Q (.ref q) H')
theorem met_none (T : Tx K mg) : Met P w K mg base 2 (CA K "Search") "ended" (sp_ended K 0) := by
  obtain ⟨fd, F⟩ := T.f_Search_ended
  refine ⟨_, fd, ["self", "ways", "at"], T.cl_Search, T.m_Search_ended, ⟨fun vs H Q E h => ?_, fun A outer s H args us vs Q E hr he hb hv h => ?_⟩, FunD.bindsN F (fun _ _ _ _ _ _ us hl => match us, hl with | [_, _, _], _ => rfl)⟩
  · obtain ⟨d, _, _, _, _, _, _, hd, _⟩ := h
    exact absurd hd (Nat.not_lt_zero d)
  · obtain ⟨d, _, _, _, _, _, _, hd, _⟩ := h
    exact absurd hd (Nat.not_lt_zero d)
theorem met_ended_step (T : Tx K mg) (k : Nat) (ih : Met P w K mg base (k + 2) (CA K "Search") "ended" (sp_ended K k)) : Met P w K mg base (k + 1 + 2) (CA K "Search") "ended" (sp_ended K (k + 1)) := by
  refine metD (C := 0) (ps := ["self", "ways", "at"]) T.f_Search_ended T.cl_Search T.m_Search_ended (fun _ _ _ _ _ _ us hl => match us, hl with | [_, _, _], _ => rfl) sc_Search_ended (fun vs H Q E h => ?_) (fun cdv A outer s H vs Q E hr h => ?_)
  · obtain ⟨d, p, wy, n, bs, C, us, _, rfl, _⟩ := h
    rfl
  · obtain ⟨d, p, wy, n, bs, C, us, hd, rfl, hS, hat, hwy, hC, hn, q1, q2⟩ := h
    have hS' := hS
    obtain ⟨dx, g, sm, gs, kvs, h1, h2, h3, h4, h5, h6⟩ := hS
    refine ⟨_, (pss_cons (ps_if (pt_cmpR op_eqN (pv 2) (pe_callB call_len_seq (by rfl) T.b_len bt_len (pa_cons (pe_fld (pv 0) rfl) pa_nil)) (nomark _))
        (pss_one (ps_ret (pv 1)))
        pss_nil)
      (pss_cons (ps_for PassesOwn.never rfl (pi_list (pe_mt (met_steps T) hr (by omega) (pv 0) (pa_cons (pv 1) (pa_cons (pv 2) pa_nil)))) (pg_name (i := 3) sc_Search_ended.nd rfl (.inl rfl))
        (pss_cons (ps_set (i := 4) sc_Search_ended.nd rfl (.inl rfl) (pe_mt ih hr (by omega) (pv 0) (pa_cons (pv 3) (pa_cons (pe_op op_addN (pv 2) pe_int) pa_nil))))
        (pss_one (ps_if (pt_cmpR op_notN (pv 4) pe_non (nomark _))
          (pss_one (ps_ret (pv 4)))
          pss_nil))))
      (pss_one (ps_ret pe_non)))), ?_⟩
    refine ⟨_, rfl, _, rfl, p, _, _, _, _, rfl, h1, T.cl_Search, T.no_own_goals, lk5 g sm, g, gs, rfl, .inl (sqL_new h2), _, _, rfl, rfl, _, rfl, ite2 (fun e => ?_) fun e => ?_⟩
    · have e0 : us.length = bs.length := (of_decide_eq_true e).trans h3
      obtain rfl : d = 0 := by omega
      exact ⟨_, rfl, q2 us rfl H wy (Same.refl H) hwy⟩
    · have e0 : ¬ us.length = gs.length := fun z => e (decide_eq_true z)
      obtain ⟨d', rfl⟩ : ∃ d', d = d' + 1 := ⟨d - 1, by omega⟩
      refine ⟨_, rfl, p, _, _, rfl, h1, rfl, _, rfl, _, rfl, p, wy, n, bs, C, us, rfl, hS', by omega, hwy, hC, hn, fun H1 la zs s1 hla pz => ?_⟩
      have eext : Ow.ext n C bs (d' + 1) us = (C.filter (Ow.okStep n bs us)).findSome? fun w => Ow.ext n C bs d' (us ++ [w]) := rfl
      rw [eext] at q1 q2
      generalize hF : C.filter (Ow.okStep n bs us) = F at *
      refine ⟨la, rfl, ⟨_, sqL_new hla⟩, for_list (K := K) (a := la) (xs := zs) (fun i σ H' => Same H1 H' ∧ (∃ y3 y4, σ = [some (.ref p), some (.ref wy), some (vN us.length), y3, y4]) ∧ (F.take i).findSome? (fun w => Ow.ext n C bs d' (us ++ [w])) = none) ⟨Same.refl _, ⟨_, _, rfl⟩, rfl⟩ (fun i σ H' _ h => sqL_new (h.1 _ _ hla)) ?_ ?_⟩
      · rintro i x σ H2 hx ⟨s2, ⟨y3, y4, rfl⟩, hf⟩
        have hil : i < F.length := by rw [Paired.length' pz]; exact (List.getElem?_eq_some_iff.mp hx).1
        have hc : F[i]? = some F[i] := List.getElem?_eq_getElem hil
        obtain ⟨r, rfl, hr2⟩ := Paired.at pz hc hx
        have hh : F.findSome? (fun w => Ow.ext n C bs d' (us ++ [w])) = (Ow.ext n C bs d' (us ++ [F[i]])).or ((F.drop (i + 1)).findSome? fun w => Ow.ext n C bs d' (us ++ [w])) := by
          conv => lhs; rw [← List.take_append_drop i F, List.findSome?_append, hf, List.drop_eq_getElem_cons hil, List.findSome?_cons]
          cases Ow.ext n C bs d' (us ++ [F[i]]) <;> rfl
        refine ⟨_, rfl, p, _, _, rfl, s2 _ _ (s1 _ _ h1), rfl, _, rfl, _, rfl, _, 1, rfl, rfl, d', p, r, n, bs, C, us ++ [F[i]], by omega, (by rw [List.length_append]; rfl), hS'.same (s1.trans s2), by rw [List.length_append, List.length_singleton]; omega, s2 _ _ hr2, hC, hn, ?_, ?_⟩
        · intro hn2 H3 s3
          refine ⟨_, rfl, rfl, _, rfl, s2.trans s3, ⟨_, _, rfl⟩, ?_⟩
          rw [take_succ hc, List.findSome?_append, hf]
          simp [hn2]
        · intro ws hws H3 r3 s3 hr3
          refine ⟨_, rfl, rfl, _, rfl, ?_⟩
          exact ⟨_, rfl, q2 ws (by rw [hh, hws]; rfl) H3 r3 ((s1.trans s2).trans s3) hr3⟩
      · rintro σ H2 ⟨s2, ⟨y3, y4, rfl⟩, hf⟩
        rw [← Paired.length' pz, List.take_length] at hf
        exact q1 hf H2 (s1.trans s2)
theorem met_ended_all (T : Tx K mg) : ∀ k, Met P w K mg base (k + 2) (CA K "Search") "ended" (sp_ended K k)
  | 0 => met_none T
  | k + 1 => met_ended_step T k (met_ended_all T k)
theorem met_ended (T : Tx K mg) : Met P w K mg base 8 (CA K "Search") "ended" (sp_ended K 6) := met_ended_all T 6
end
end Oc
set_option Elab.async false
set_option linter.all false
set_option maxRecDepth 100000
set_option maxHeartbeats 4000000
namespace Oc
open PySem PySem.Spec PyProof.Rows L2
abbrev twoD (a b : List Nat) : PyData := .tuple [listD a, listD b]
theorem dp_two {K : PySem.W.Frag} {H : Hp} {p l1 l2 : Addr} {a b : List Nat} (hp : H p = some (.tup [.ref l1, .ref l2])) (h1 : H l1 = some (.lst (vL a))) (h2 : H l2 = some (.lst (vL b))) : Dp K H (.ref p) (twoD a b) :=
  .tup (sqT_new hp) (.cons (dp_list h1) (.cons (dp_list h2) .nil))
theorem shaped_two (a b : List Nat) : SeqAt.shaped (twoD a b) = true := by
  refine shaped_of ?_ ?_
  · simp only [PyData.canLay0, PyData.canLayAll0, canLay_list]
    rfl
  · have h1 := listD_depth a
    have h2 := listD_depth b
    simp only [PyData.depth, PyData.depthAll]
    omega
theorem eqv_two (a b c d : List Nat) : PyData.eqv (twoD a b) (twoD c d) = (decide (a = c) && decide (b = d)) := by
  simp only [PyData.eqv, PyData.eqvAll, eqv_list, Bool.and_true]
/-- the lists of places by way, each with the first ones taken off -/
def LeftAt (H : Hp) (kvs : List (Key × V)) (E : List Nat) (N : List Nat) (i : Nat) : Prop := ∀ (v : Nat) (a : Addr), valV kvs (kN v) = some (.ref a) → H a = some (.lst (vL ((Ow.placesWith E v).drop ((N.take i).count v))))
theorem drop_head {l : List Nat} {k q : Nat} (h : l[k]? = some q) : l.drop k = q :: l.drop (k + 1) := by
  obtain ⟨h1, h2⟩ := List.getElem?_eq_some_iff.mp h
  rw [List.drop_eq_getElem_cons h1, h2]
theorem GroupAt.same {H5 H' H'' : Hp} {sm : Addr} {key : Nat → Nat} {l : List Nat} (h : GroupAt H5 H' sm key l) (s : Same H' H'') : GroupAt H5 H'' sm key l := by
  obtain ⟨kvs, h1, h2, h3, h4⟩ := h
  refine ⟨kvs, s _ _ h1, h2, fun k => ?_, h4⟩
  rcases h3 k with q | ⟨a, q1, q2, q3, q4⟩
  · exact .inl q
  · exact .inr ⟨a, q1, q2, q3, s _ _ q4⟩
section
variable {P : Program} {w : World} {K : PySem.W.Frag} {mg : Str → Option Value} {base : Heap}
abbrev N_leading : List Str := ["near", "far", "places", "plain", "others", "basis", "ended", "spots", "place", "way"]
theorem sc_leading : FnScope N_leading ["near", "far"] (defScope s_leading) := ⟨rfl, rfl, rfl, by decide +kernel, rfl, by decide +kernel, by decide +kernel⟩
def sp_leading (K : PySem.W.Frag) : Sp := fun vs H Q _ => ∃ (a b : Addr) (n m : Nat) (B C : List Nat), vs = [.ref a, .ref b] ∧ RoomAt K H a n B ∧ RoomAt K H b n C ∧ Ow.Own n B ∧ Ow.Own n C ∧ n = 2 * m ∧ 1 ≤ m ∧ m ≤ 5 ∧
  (Ow.np B ≠ Ow.np C → ∀ H', Same H H' → Q .non H') ∧
  (Ow.np B = Ow.np C → ∀ (H' : Hp) (q : Addr) (σ : List Nat), Same H H' → H' q = some (.lst (vL σ)) → Ow.IsSeq n σ → ((Ow.span B).map (Ow.led σ)).Perm (Ow.span C) → Q (.ref q) H')
theorem cal_leading (T : Tx K mg) : Cal P w K mg base 9 "leading" (sp_leading K) := by
  refine calD (ps := ["near", "far"]) T.f_leading (fun _ _ _ _ _ _ us hl => match us, hl with | [_, _], _ => rfl) sc_leading (fun vs H Q E h => ?_) (fun cdv A outer s H vs Q E hr h => ?_)
  · obtain ⟨a, b, n, m, B, C, rfl, _⟩ := h
    rfl
  · obtain ⟨a, b, n, m, B, C, rfl, ⟨dx, b1, ha, hb1⟩, ⟨dx2, b2, hb, hb2⟩, oB, oC, hm, h1, h5, q1, q2⟩ := h
    have hBl : 2 * B.length = n := oB.half
    have hCl : 2 * C.length = n := oC.half
    have hn : n ≤ 24 := by omega
    have hB24 : ∀ x ∈ B, x < 2 ^ 24 := fun x hx => Nat.lt_of_lt_of_le (oB.lt x hx) (Nat.pow_le_pow_right (by decide) hn)
    have hC24 : ∀ x ∈ C, x < 2 ^ 24 := fun x hx => Nat.lt_of_lt_of_le (oC.lt x hx) (Nat.pow_le_pow_right (by decide) hn)
    refine ⟨_, (pss_cons (ps_set (i := 2) sc_leading.nd rfl (.inl rfl) (pe_fld (pv 0) rfl))
      (pss_cons (ps_if (pt_cmpR op_neN (pe_callB call_len_seq (by rfl) T.b_len bt_len (pa_cons (pe_fld (pv 0) rfl) pa_nil)) (pe_callB call_len_seq (by rfl) T.b_len bt_len (pa_cons (pe_fld (pv 1) rfl) pa_nil)) (nomark _))
        (pss_one (ps_ret pe_non))
        pss_nil)
      (pss_cons (ps_par (i := 3) (j := 4) (by rfl) sc_leading.nd rfl rfl (by decide) rfl rfl (pa_cons (pe_c (cal_small_basis T) hr (by decide) (by rfl) (pa_cons (pv 2) (pa_cons (pe_fld (pv 0) rfl) pa_nil))) (pa_cons (pe_c (cal_small_basis T) hr (by decide) (by rfl) (pa_cons (pv 2) (pa_cons (pe_fld (pv 1) rfl) pa_nil))) pa_nil)) (by rfl))
      (pss_cons (ps_if (pt_cmpR (op_neD hr.units) (pe_c (cal_marks_of T) hr (by decide) (by rfl) (pa_cons (pv 2) (pa_cons (pv 3) pa_nil))) (pe_c (cal_marks_of T) hr (by decide) (by rfl) (pa_cons (pv 2) (pa_cons (pv 4) pa_nil))) (nomark _))
        (pss_one (ps_ret pe_non))
        pss_nil)
      (pss_cons (ps_set (i := 5) sc_leading.nd rfl (.inl rfl) (pe_c (cal_light_basis T) hr (by decide) (by rfl) (pa_cons (pv 3) pa_nil)))
      (pss_cons (ps_set (i := 6) sc_leading.nd rfl (.inl rfl) (pe_mt (met_ended T) hr (by decide) (pe_mk (mak_Search T) hr (by decide) (by rfl) (pa_cons (pv 2) (pa_cons (pv 5) (pa_cons (pv 4) pa_nil)))) (pa_cons (pe_op op_rep (pe_lst (pa_cons pe_int pa_nil)) (pv 2)) (pa_cons pe_int pa_nil))))
      (pss_cons (ps_if (pt_cmpR op_isN (pv 6) pe_non (nomark _))
        (pss_one (ps_ret pe_non))
        pss_nil)
      (pss_cons (ps_set (i := 7) sc_leading.nd rfl (.inr rfl) pe_dnewK)
      (pss_cons (ps_for PassesOwn.never rfl (pi_enum (by rfl) T.b_enumerate (pa_cons (pv 6) pa_nil)) (pg_tup (by rfl) (pgs_cons (pg_name (i := 8) sc_leading.nd rfl (.inl rfl)) (pgs_cons (pg_name (i := 9) sc_leading.nd rfl (.inl rfl)) pgs_nil)))
        (pss_one (ps_expr (pe_bm PySem.F.plainAttrs_list PySem.F.slot_list_append PySem.F.type_list_append mt_append (pe_dsetd (pv 7) (pv 9) (pe_lst pa_nil) ⟨by rfl, by rfl, by rfl, by rfl⟩) (pa_cons (pv 8) pa_nil)))))
      (pss_one (ps_ret (pe_lc (own := [("way", 9)]) (by rfl) sc_leading.nd (pi_list (pe_c (cal_ways_by T) hr (by decide) (by rfl) (pa_cons (pv 2) (pa_cons (pv 5) pa_nil)))) (blkOk_by (N := N_leading) (sc := defScope s_leading) (by decide +kernel)) (fun _ _ _ _ _ => (pg_name (i := 9) sc_leading.nd rfl (.inl rfl))) (fun _ _ _ _ _ => pts_nil) (fun _ _ _ _ _ => (pe_bmK (K' := K) rfl PySem.F.plainAttrs_list PySem.F.slot_list_pop PySem.F.type_list_pop mt_popAt (pe_dget (hu_of hr) (pv 7) (pv 9) (fun _ _ => rfl)) (pa_cons pe_int pa_nil))))))))))))))), ?_⟩
    refine ⟨_, rfl, a, _, _, _, _, rfl, ha, T.cl_Room, T.no_own_places, lk3 n b1, ?_⟩
    refine ⟨_, rfl, a, _, _, _, _, rfl, ha, T.cl_Room, T.no_own_basis, lk4 n b1, b1, _, rfl, .inr hb1, _, rfl, b, _, _, _, _, rfl, hb, T.cl_Room, T.no_own_basis, lk4 n b2, b2, _, rfl, .inr hb2, _, _, rfl, rfl, _, rfl, ite2 (fun e => ?_) fun e => ?_⟩
    · exfalso
      have e2 : (vL B).length = (vL C).length := by rw [vL_length, vL_length]; omega
      exact absurd e (no_ne e2)
    clear e
    refine ⟨_, rfl, _, rfl, a, _, _, _, _, rfl, ha, T.cl_Room, T.no_own_basis, lk4 n b1, b1, n, B, rfl, hb1, by omega, _, rfl, _, rfl, b, _, _, _, _, rfl, hb, T.cl_Room, T.no_own_basis, lk4 n b2, b2, n, C, rfl, hb2, by omega, _, _, rfl, ?_⟩
    refine ⟨_, rfl, _, rfl, b1, n, B, rfl, hb1, by omega, hB24, hn, fun H1 p1 l1 l2 s1 g1 g2 g3 => ?_⟩
    refine ⟨_, rfl, _, rfl, b2, n, C, rfl, s1.tup hb2, by omega, hC24, hn, fun H2 p2 l3 l4 s2 g4 g5 g6 => ?_⟩
    refine ⟨_, _, dp_two (s2 _ _ g1) (s2 _ _ g2) (s2 _ _ g3), dp_two g4 g5 g6, shaped_two _ _, shaped_two _ _, _, rfl, ite2 (fun e => ?_) fun e => ?_⟩
    · refine q1 (fun z => ?_) H2 (s1.trans s2)
      rw [eqv_two, Ow.weights_alike oB oC hm h1 h5 z, Ow.sizes_eq oB hm h1 h5, Ow.sizes_eq oC hm h1 h5, z] at e
      simp at e
    clear e
    refine ⟨_, rfl, b1, B, rfl, (s1.trans s2).tup hb1, oB.plain, by omega, hB24, fun H3 lb bs s3 hlb hbs => ?_⟩
    have hbl := hbs.len
    have s03 : Same H H3 := s1.trans (s2.trans s3)
    have hbs24 := hbs.lt hB24
    have hsp : (Ow.span C).length ≤ 32 := by
      rw [Ow.length_span]
      exact Nat.le_trans (Nat.pow_le_pow_right (by decide) (by omega : C.length ≤ 5)) (by decide)
    refine ⟨_, rfl, _, rfl, _, rfl, fun x dx3 hx hdx ne => ⟨x, dx3, lb, b2, n, bs, C, rfl, upd_same, ?_, .inr ?_, by omega, by omega, hn, hbs24, hC24, fun H4 k4 hS4 => ⟨rfl, ?_⟩⟩⟩
    · exact sqL_new (by rw [upd_ne (ne_of_none hlb hx), upd_ne (ne_of_none hlb hdx)]; exact hlb)
    · exact (Same.made hx hdx (fun _ _ e _ => e)).tup (s03.tup hb2)
    have s4 : Same H3 H4 := Same.made hx hdx k4
    have hS4' := hS4
    obtain ⟨dx5, g, sm0, gs, kvs0, f1, _⟩ := hS4'
    refine ⟨x, _, _, rfl, f1, rfl, by decide, fun z hz => ?_⟩
    refine ⟨_, rfl, z, _, _, rfl, rfl, upd_same, by omega, by omega, small' (by simp; omega), fun w0 hw0 => ?_⟩
    have s5 : Same H4 (upd (upd H4 z (.lst [.int 0])) w0 (.lst (List.replicate ((n : Int)).toNat [V.int 0]).flatten)) := (same_upd hz).trans (same_upd hw0)
    refine ⟨bs.length, x, w0, n, bs, Ow.span C, [], by omega, rfl, hS4.same s5, by simp, (by rw [upd_same, Int.toNat_natCast, ways_nil]), hsp, hn, fun hx0 H5 s6 => ?_, fun ws hws H5 e5 s6 he5 => ?_⟩
    · refine ⟨_, rfl, rfl, _, rfl, ?_⟩
      exact q1 (fun zz => Ow.search_finds oB oC hm h1 h5 hbs zz hx0) H5 (s03.trans (s4.trans (s5.trans s6)))
    · obtain ⟨hpm, hwl, hseq, hled⟩ := Ow.search_leads oB oC hm h1 hbs hws
      have hnp := Ow.np_led oB oC hn hseq hled
      have s05 : Same H H5 := s03.trans (s4.trans (s5.trans s6))
      refine ⟨_, rfl, rfl, _, rfl, ?_⟩
      obtain ⟨E, eE⟩ : ∃ E, E = Ow.waysN n ws := ⟨_, rfl⟩
      obtain ⟨N, eN⟩ : ∃ N, N = Ow.waysN n bs := ⟨_, rfl⟩
      rw [← eE, ← eN] at hpm hseq hled
      rw [← eE] at he5
      have hEl : E.length = n := by rw [eE, Ow.waysN_length]
      have hNl : N.length = n := by rw [eN, Ow.waysN_length]
      refine fun sm hsm => ?_
      obtain ⟨H6, eH6⟩ : ∃ H6, H6 = upd H5 sm (.dK []) := ⟨_, rfl⟩
      rw [← eH6]
      have h6s : H6 sm = some (.dK []) := by rw [eH6, upd_same]
      have s56 : Same H5 H6 := by rw [eH6]; exact same_upd hsm
      have key0 : ∀ i, i < n → E[i]? = some (E.getD i 0) := fun i hi => by
        rw [List.getD_eq_getElem?_getD, List.getElem?_eq_getElem (by omega)]
        rfl
      refine ⟨_, rfl, e5, _, rfl, sqL_new (s56 _ _ he5), for_it walk_enum (fun i σ H' => (∃ y8 y9, σ = [some (.ref a), some (.ref b), some (vN n), some (.ref b1), some (.ref b2), some (.ref lb), some (.ref e5), some (.ref sm), y8, y9]) ∧ But sm H6 H' ∧ GroupAt H6 H' sm (fun p => E.getD p 0) (List.range i)) ⟨⟨_, _, rfl⟩, (fun c o e _ => e), group_start h6s⟩ (fun i σ H' _ h => sqL_new (h.2.1 _ _ (s56 _ _ he5) (ne_of_none he5 hsm))) ?_ ?_⟩
      · rintro i x σ H7 H8 hi ⟨⟨y8, y9, rfl⟩, bt, gr⟩ ⟨T1, x1, x2, rfl, hT, rfl, ex1, ex2⟩
        have hi' : i < n := by rw [vL_length, hEl] at hi; exact hi
        have e1 : x1 = vN i := (Option.some.inj ex1).symm
        have e2 : x2 = vN (E.getD i 0) := vL_some (key0 i hi') ex2
        subst e1 e2
        refine ⟨T1, _, rfl, sqT_new upd_same, rfl, _, _, rfl, _, _, rfl, rfl, ?_⟩
        obtain ⟨kvs, e, hl, hv, hinj⟩ := gr.same (same_upd (o := .tup [vN i, vN (E.getD i 0)]) hT)
        have bt' : But sm H6 (upd H7 T1 (.tup [vN i, vN (E.getD i 0)])) := fun c o e ne => (same_upd hT) _ _ (bt c o e ne)
        have hrl : (List.range i).length ≤ 24 := by rw [List.length_range]; omega
        refine ⟨_, rfl, sm, rfl, .inl ⟨kvs, .inl e⟩, _, rfl, Nat.zero_le _, fun z hz => ?_⟩
        have nsz : sm ≠ z := ne_of_none e hz
        refine ⟨kvs, kN (E.getD i 0), (by rw [upd_ne nsz]; exact e), rfl, small (by omega), fun v hv2 => ?_, fun hv2 => ?_⟩
        · rcases hv (E.getD i 0) with ⟨g, _⟩ | ⟨al, g, _⟩
          · rw [hv2] at g; cases g
          · rw [hv2] at g
            obtain rfl : v = .ref al := Option.some.inj g
            obtain ⟨xs, k1, k2, k3, k4⟩ := group_old (x := i) (key := fun p => E.getD p 0) e hl hv hinj hz hv2 bt' h6s
            refine ⟨.inl ⟨rfl, _, sqL_new k1⟩, _, rfl, al, vL xs, _, rfl, rfl, k1, small (by rw [vL_length]; omega), ⟨_, _, rfl⟩, k4, ?_⟩
            rw [List.range_succ]
            exact k3
        · obtain ⟨k1, k3, k4⟩ := group_new (x := i) (key := fun p => E.getD p 0) e hl hv hinj hz hv2 bt' h6s
          refine ⟨.inl ⟨rfl, _, sqL_new k1⟩, _, rfl, z, [], _, rfl, rfl, k1, small (by decide), ⟨_, _, rfl⟩, k4, ?_⟩
          rw [List.range_succ]
          exact k3
      · rintro σ H7 ⟨⟨y8, y9, rfl⟩, bt, kvs, e, hl, hv, hinj⟩
        rw [vL_length, hEl] at hv
        have k57 : Same H5 H7 := fun c o hc => bt c o (s56 _ _ hc) (ne_of_none hc hsm)
        refine ⟨_, rfl, _, rfl, lb, n, bs, rfl, sqL_new (k57 _ _ (s6 _ _ (s5 _ _ (s4 _ _ hlb)))), hn, fun H8 nl nn s8 hnl => ⟨nl, rfl, ⟨_, sqL_new hnl⟩, fun D hD => ?_⟩⟩
        rw [← eN] at hnl
        have hpw : ∀ v, Ow.placesWith E v = (List.range n).filter fun x => E.getD x 0 == v := fun v => by unfold Ow.placesWith; rw [hEl]
        have hvs : ∀ (v : Nat) (al : Addr), valV kvs (kN v) = some (.ref al) → H6 al = none ∧ al ≠ sm ∧ H7 al = some (.lst (vL (Ow.placesWith E v))) := fun v al hval => by
          rcases hv v with ⟨g, _⟩ | ⟨al', g1, g2, g3, g4⟩
          · rw [hval] at g; cases g
          · rw [hval] at g1
            obtain rfl : al = al' := V.ref.inj (Option.some.inj g1)
            exact ⟨g2, g3, by rw [hpw]; exact g4⟩
        have nDs : D ≠ sm := fun c => by rw [c, s8 _ _ e] at hD; cases hD
        have nDl : D ≠ nl := fun c => by rw [c, hnl] at hD; cases hD
        have nDa : ∀ {v al}, valV kvs (kN v) = some (.ref al) → al ≠ D := fun hval c => by
          have := s8 _ _ (hvs _ _ hval).2.2
          rw [c, hD] at this; cases this
        have nla : ∀ {v al}, valV kvs (kN v) = some (.ref al) → nl ≠ al := fun hval c => by
          have := (hvs _ _ hval).2.2
          rw [← c, nn] at this; cases this
        have h5D : H5 D = none := none_of_same (k57.trans s8) hD
        have h5a : ∀ {v al}, valV kvs (kN v) = some (.ref al) → H5 al = none := fun hval => none_of_same s56 (hvs _ _ hval).1
        refine lc_it (walk_list (xs := vL N)) (fun i H' => Same H5 H' ∧ H' sm = some (.dK kvs) ∧ H' nl = some (.lst (vL N)) ∧ LeftAt H' kvs E N i ∧ H' D = some (.lst (vL ((Ow.seqOf E N).take i)))) ?_ (fun i H' _ h => sqL_new h.2.2.1) ?_ ?_
        · refine ⟨fun c o hc => ?_, ?_, ?_, fun v al hval => ?_, upd_same⟩
          · exact (same_upd hD) _ _ (s8 _ _ (k57 _ _ hc))
          · exact (same_upd hD) _ _ (s8 _ _ e)
          · exact (same_upd hD) _ _ hnl
          · rw [List.take_zero, List.count_nil, List.drop_zero]
            exact (same_upd hD) _ _ (s8 _ _ (hvs v al hval).2.2)
        · rintro i x H9 H10 hi ⟨c1, c2, c3, c4, c5⟩ ⟨rfl, hx9⟩
          have hi' : i < N.length := by rw [vL_length] at hi; exact hi
          have hx9' : x = vN (N.getD i 0) := vL_some (by rw [List.getD_eq_getElem?_getD, List.getElem?_eq_getElem hi']; rfl) hx9
          subst hx9'
          obtain ⟨q0, d1, d2, d3, d4⟩ := Ow.seqOf_at hpm hi'
          obtain ⟨v, ev⟩ : ∃ v, v = N.getD i 0 := ⟨_, rfl⟩
          rw [← ev] at d4 ⊢
          obtain ⟨al, hval⟩ : ∃ al, valV kvs (kN v) = some (.ref al) := by
            rcases hv v with ⟨_, g⟩ | ⟨al, g, _⟩
            · rw [hpw, g] at d4; cases d4
            · exact ⟨al, g⟩
          have hal := c4 v al hval
          rw [drop_head d4] at hal
          refine ⟨rfl, _, rfl, _, rfl, sm, .ref al, rfl, .inl ⟨kvs, kN v, .inl c2, rfl, hval.symm⟩, .inl ⟨rfl, _, sqL_new hal⟩, al, _, 0, 0, vN q0, rfl, rfl, hal, by decide, by decide, (ixN_seq (i := 0) (j := 0) (by unfold ixN; rw [if_pos (by decide), if_pos (by rw [vL_length, List.length_cons]; omega)]; rfl)).1, rfl, ?_⟩
          refine ⟨_, by rw [upd_ne (Ne.symm (nDa hval))]; exact c5, small (by rw [vL_length, List.length_take]; omega), ?_, ?_, ?_, ?_, ?_⟩
          · intro c o hc
            rw [upd_ne (ne_of_none hc h5D), upd_ne (ne_of_none hc (h5a hval))]
            exact c1 _ _ hc
          · rw [upd_ne (Ne.symm nDs), upd_ne (Ne.symm (hvs v al hval).2.1)]
            exact c2
          · rw [upd_ne (Ne.symm nDl), upd_ne (nla hval)]
            exact c3
          · intro v' al' hval'
            rw [upd_ne (nDa hval')]
            have hNi : N[i]? = some v := by rw [ev, List.getD_eq_getElem?_getD, List.getElem?_eq_getElem hi']; rfl
            rw [take_succ hNi, List.count_append]
            by_cases hvv : v' = v
            · subst hvv
              obtain rfl : al' = al := V.ref.inj (Option.some.inj (hval'.symm.trans hval))
              rw [upd_same, List.count_singleton_self]
              rfl
            · have hne : al' ≠ al := fun c => hvv (hinj _ _ al (c ▸ hval') hval)
              rw [upd_ne hne]
              have hz0 : [v].count v' = 0 := List.count_eq_zero.mpr fun c => hvv (List.mem_singleton.mp c)
              rw [hz0, Nat.add_zero]
              exact c4 v' al' hval'
          · have hsq : (Ow.seqOf E N)[i]? = some q0 := by
              have hsl : i < (Ow.seqOf E N).length := by rw [hseq.len]; omega
              rw [List.getElem?_eq_getElem hsl]
              rw [List.getD_eq_getElem?_getD, List.getElem?_eq_getElem hsl] at d1
              exact congrArg some d1
            rw [upd_same, take_succ hsq, vL_append]
            rfl
        · rintro H9 ⟨c1, c2, c3, c4, c5⟩
          rw [vL_length, List.take_of_length_le (by rw [hseq.len]; omega)] at c5
          exact q2 hnp H9 D _ (s05.trans c1) c5 hseq hled
abbrev N_alike : List Str := ["room", "other"]
theorem sc_alike : FnScope N_alike ["room", "other"] (defScope s_alike) := ⟨rfl, rfl, rfl, by decide +kernel, rfl, by decide +kernel, by decide +kernel⟩
theorem cal_alike (T : Tx K mg) : Cal P w K mg base 10 "alike" (sp_leading K) := by
  refine calD (ps := ["room", "other"]) T.f_alike (fun _ _ _ _ _ _ us hl => match us, hl with | [_, _], _ => rfl) sc_alike (fun vs H Q E h => ?_) (fun cdv A outer s H vs Q E hr h => ?_)
  · obtain ⟨a, b, n, m, B, C, rfl, _⟩ := h
    rfl
  · obtain ⟨a, b, n, m, B, C, rfl, hA, hB, oB, oC, hm, h1, h5, q1, q2⟩ := h
    have hA' := hA
    obtain ⟨dx, b1, ha, hb1⟩ := hA
    refine ⟨_, (pss_cons (ps_expr (pe_c (cal_want_alike T) hr (by decide) (by rfl) (pa_cons (pv 0) (pa_cons (pv 1) pa_nil))))
      (pss_cons (ps_expr (pe_c (cal_want_at_most T) hr (by decide) (by rfl) (pa_cons pe_str (pa_cons (pe_ci rfl T.c_MOST_PLACES_alike) (pa_cons (pe_fld (pv 0) rfl) pa_nil)))))
      (pss_one (ps_ret (pe_c (cal_leading T) hr (by decide) (by rfl) (pa_cons (pv 0) (pa_cons (pv 1) pa_nil))))))), ?_⟩
    refine ⟨_, rfl, _, rfl, a, b, n, B, C, rfl, hA', hB, ?_⟩
    refine ⟨_, rfl, a, _, _, _, _, rfl, ha, T.cl_Room, T.no_own_places, lk3 n b1, _, 12, _, rfl, by omega, ?_⟩
    exact ⟨_, rfl, _, rfl, a, b, n, m, B, C, rfl, hA', hB, oB, oC, hm, h1, h5, q1, q2⟩
end
end Oc
set_option Elab.async false
set_option linter.all false
set_option maxRecDepth 100000
set_option maxHeartbeats 4000000
namespace Ow
theorem fact_small : ∀ k, k ≤ 10 → fact k < 2 ^ 60 := by decide +kernel
theorem prodF_snoc (L ds : List Nat) (v : Nat) : prodF L (ds ++ [v]) = prodF L ds * fact (L.count v) := by
  unfold prodF
  rw [List.map_append, List.prod_append]
  simp
end Ow
namespace Oc
open PySem PySem.Spec PyProof.Rows L2
theorem ints_set {N : List Nat} {ns : List Int} (h : ns.Pairwise (· < ·)) (hm : ∀ k : Int, k ∈ ns ↔ k ∈ N.map iN) : ∃ ds : List Nat, ns = ds.map iN ∧ ds.Nodup ∧ ∀ v, v ∈ ds ↔ v ∈ N := by
  obtain ⟨ds, rfl⟩ : ∃ ds : List Nat, ns = ds.map iN := by
    refine ⟨ns.map Int.toNat, ?_⟩
    rw [List.map_map]
    have : ∀ z ∈ ns, (iN ∘ Int.toNat) z = id z := fun z hz => by
      obtain ⟨n, _, rfl⟩ := List.mem_map.mp ((hm z).mp hz)
      rfl
    rw [List.map_congr_left this, List.map_id]
  have inj : ∀ {l : List Nat} {v : Nat}, iN v ∈ l.map iN ↔ v ∈ l := fun {l v} => by
    constructor
    · intro hv
      obtain ⟨n, hn, en⟩ := List.mem_map.mp hv
      unfold iN at en
      have : n = v := by omega
      exact this ▸ hn
    · exact fun hv => List.mem_map.mpr ⟨v, hv, rfl⟩
  refine ⟨ds, rfl, ?_, fun v => ?_⟩
  · rw [List.pairwise_map] at h
    exact h.imp fun hab => by unfold iN at hab; omega
  · rw [← inj, hm, inj]
section
variable {P : Program} {w : World} {K : PySem.W.Frag} {mg : Str → Option Value} {base : Heap}
abbrev N_factorial : List Str := ["number", "found", "factor"]
theorem sc_factorial : FnScope N_factorial ["number"] (defScope s_factorial) := ⟨rfl, rfl, rfl, by decide +kernel, rfl, by decide +kernel, by decide +kernel⟩
def sp_factorial : Sp := fun vs H Q _ => ∃ (k : Nat), vs = [vN k] ∧ k ≤ 1000 ∧ Q (vN (Ow.fact k)) H
theorem cal_factorial (T : Tx K mg) : Cal P w K mg base 1 "factorial" sp_factorial := by
  refine calD (ps := ["number"]) T.f_factorial (fun _ _ _ _ _ _ us hl => match us, hl with | [_], _ => rfl) sc_factorial (fun vs H Q E h => ?_) (fun cdv A outer s H vs Q E hr h => ?_)
  · obtain ⟨i, rfl, _⟩ := h
    rfl
  · obtain ⟨k, rfl, hk, q⟩ := h
    refine ⟨_, (pss_cons (ps_set (i := 1) sc_factorial.nd rfl (.inl rfl) pe_int)
      (pss_cons (ps_for PassesOwn.never rfl (pi_range2 rfl T.b_range (pa_cons pe_int (pa_cons (pe_op op_addN (pv 0) pe_int) pa_nil))) (pg_name (i := 2) sc_factorial.nd rfl (.inl rfl))
        (pss_one (ps_set (i := 1) sc_factorial.nd rfl (.inl rfl) (pe_op op_mulN (pv 1) (pv 2)))))
      (pss_one (ps_ret (pv 1))))), ?_⟩
    refine ⟨_, rfl, _, 1, rfl, rfl, _, _, rfl, ⟨by decide, by decide, by omega, by omega⟩, ?_⟩
    refine for_range (fun i σ H' => H' = H ∧ ∃ y, σ = [some (vN k), some (vN (Ow.fact (i + 1))), y]) ⟨rfl, none, rfl⟩ ?_ ?_
    · rintro i σ H' hi ⟨rfl, y, rfl⟩
      refine ⟨_, rfl, _, rfl, _, i + 2, rfl, (congrArg V.int (by omega)), .inr (by omega), rfl, some (.int (2 + (i : Int))), ?_⟩
      have e : Ow.fact (i + 1 + 1) = Ow.fact (i + 1) * (i + 2) := Nat.mul_comm _ _
      rw [e]
      rfl
    · rintro σ H' ⟨rfl, y, rfl⟩
      refine ⟨_, rfl, val_eq ?_ q⟩
      refine congrArg vN ?_
      cases k with
      | zero => rfl
      | succ k => exact congrArg Ow.fact (by omega)
abbrev N_exchanges_of : List Str := ["room", "places", "basis", "search", "ways", "found", "at", "word", "way", "one"]
theorem sc_exchanges_of : FnScope N_exchanges_of ["room"] (defScope s_exchanges_of) := ⟨rfl, rfl, rfl, by decide +kernel, rfl, by decide +kernel, by decide +kernel⟩
def sp_exch (K : PySem.W.Frag) : Sp := fun vs H Q _ => ∃ (a : Addr) (n m : Nat) (B : List Nat), vs = [.ref a] ∧ RoomAt K H a n B ∧ Ow.Own n B ∧ n = 2 * m ∧ 1 ≤ m ∧ m ≤ 5 ∧ ∀ H', Same H H' → Q (vN (Ow.dueOf m (Ow.np B))) H'
theorem cal_exchanges_of (T : Tx K mg) : Cal P w K mg base 9 "exchanges_of" (sp_exch K) := by
  refine calD (ps := ["room"]) T.f_exchanges_of (fun _ _ _ _ _ _ us hl => match us, hl with | [_], _ => rfl) sc_exchanges_of (fun vs H Q E h => ?_) (fun cdv A outer s H vs Q E hr h => ?_)
  · obtain ⟨a, n, m, B, rfl, _⟩ := h
    rfl
  · obtain ⟨a, n, m, B, rfl, ⟨dx, b1, ha, hb1⟩, oB, hm, h1, h5, q⟩ := h
    have hBl : 2 * B.length = n := oB.half
    have hn : n ≤ 24 := by omega
    have hB24 : ∀ x ∈ B, x < 2 ^ 24 := fun x hx => Nat.lt_of_lt_of_le (oB.lt x hx) (Nat.pow_le_pow_right (by decide) hn)
    refine ⟨_, (pss_cons (ps_set (i := 1) sc_exchanges_of.nd rfl (.inl rfl) (pe_fld (pv 0) rfl))
      (pss_cons (ps_set (i := 2) sc_exchanges_of.nd rfl (.inl rfl) (pe_c (cal_light_basis T) hr (by decide) (by rfl) (pa_cons (pe_c (cal_small_basis T) hr (by decide) (by rfl) (pa_cons (pv 1) (pa_cons (pe_fld (pv 0) rfl) pa_nil))) pa_nil)))
      (pss_cons (ps_asg (pe_tup (pa_cons (pe_mk (mak_Search T) hr (by decide) (by rfl) (pa_cons (pv 1) (pa_cons (pv 2) (pa_cons (pv 2) pa_nil)))) (pa_cons (pe_op op_rep (pe_lst (pa_cons pe_int pa_nil)) (pv 1)) (pa_cons pe_int pa_nil)))) (pg_tup (by rfl) (pgs_cons (pg_name (i := 3) sc_exchanges_of.nd rfl (.inr rfl)) (pgs_cons (pg_name (i := 4) sc_exchanges_of.nd rfl (.inl rfl)) (pgs_cons (pg_name (i := 5) sc_exchanges_of.nd rfl (.inl rfl)) pgs_nil)))))
      (pss_cons (ps_for PassesOwn.never rfl (pi_enum (by rfl) T.b_enumerate (pa_cons (pv 2) pa_nil)) (pg_tup (by rfl) (pgs_cons (pg_name (i := 6) sc_exchanges_of.nd rfl (.inr rfl)) (pgs_cons (pg_name (i := 7) sc_exchanges_of.nd rfl (.inl rfl)) pgs_nil)))
        (pss_cons (ps_set (i := 5) sc_exchanges_of.nd rfl (.inl rfl) (pe_op op_mulN (pv 5) (pe_callB call_len_seq (by rfl) T.b_len bt_len (pa_cons (pe_lc (own := [("one", 9)]) (by rfl) sc_exchanges_of.nd (pi_list (pe_mt (met_steps T) hr (by decide) (pv 3) (pa_cons (pv 4) (pa_cons (pv 6) pa_nil)))) (blkOk_by (N := N_exchanges_of) (sc := defScope s_exchanges_of) (by decide +kernel)) (fun _ _ _ _ _ => (pg_name (i := 9) sc_exchanges_of.nd rfl (.inl rfl))) (fun _ _ _ _ _ => (pts_one (pt_cmpR op_notN (pe_mt (met_ended T) hr (by decide) (pv 3) (pa_cons (pv 9) (pa_cons (pe_op op_addN (pv 6) pe_int) pa_nil))) pe_non (nomark _)))) (fun _ _ _ _ _ => (pv 9))) pa_nil))))
        (pss_one (ps_set (i := 4) sc_exchanges_of.nd rfl (.inl rfl) (pe_c (cal_with_way T) hr (by decide) (by rfl) (pa_cons (pv 4) (pa_cons (pv 7) pa_nil)))))))
      (pss_cons (ps_for PassesOwn.never rfl (pi_list (pe_callB (cr_sortedSet (by rfl)) (by rfl) T.b_sorted bt_sorted (pa_cons (pe_callTy cr_setI (by rfl) T.b_set bt_set (pa_cons (pv 4) pa_nil)) pa_nil))) (pg_name (i := 8) sc_exchanges_of.nd rfl (.inr rfl))
        (pss_one (ps_set (i := 5) sc_exchanges_of.nd rfl (.inl rfl) (pe_op op_mulN (pv 5) (pe_c (cal_factorial T) hr (by decide) (by rfl) (pa_cons (pe_callB call_len_seq (by rfl) T.b_len bt_len (pa_cons (pe_lc (own := [("one", 9)]) (by rfl) sc_exchanges_of.nd (pi_list (pv 4)) (blkOk_by (N := N_exchanges_of) (sc := defScope s_exchanges_of) (by decide +kernel)) (fun _ _ _ _ _ => (pg_name (i := 9) sc_exchanges_of.nd rfl (.inl rfl))) (fun _ _ _ _ _ => (pts_one (pt_cmpR op_eqN (pv 9) (pv 8) (nomark _)))) (fun _ _ _ _ _ => (pv 9))) pa_nil)) pa_nil))))))
      (pss_one (ps_ret (pv 5)))))))), ?_⟩
    refine ⟨_, rfl, a, _, _, _, _, rfl, ha, T.cl_Room, T.no_own_places, lk3 n b1, ?_⟩
    refine ⟨_, rfl, _, rfl, a, _, _, _, _, rfl, ha, T.cl_Room, T.no_own_basis, lk4 n b1, b1, n, B, rfl, hb1, by omega, b1, B, rfl, hb1, oB.plain, by omega, hB24, fun H3 lb bs s3 hlb hbs => ?_⟩
    have hbl := hbs.len
    have hbs24 := hbs.lt hB24
    have hsp : (Ow.span bs).length ≤ 32 := by
      rw [Ow.length_span]
      exact Nat.le_trans (Nat.pow_le_pow_right (by decide) (by omega : bs.length ≤ 5)) (by decide)
    refine ⟨_, rfl, _, rfl, _, rfl, fun x dx3 hx hdx ne => ⟨x, dx3, lb, lb, n, bs, bs, rfl, upd_same, ?_, .inl ?_, by omega, by omega, hn, hbs24, hbs24, fun H4 k4 hS4 => ⟨rfl, ?_⟩⟩⟩
    · exact sqL_new (by rw [upd_ne (ne_of_none hlb hx), upd_ne (ne_of_none hlb hdx)]; exact hlb)
    · exact sqL_new (by rw [upd_ne (ne_of_none hlb hx), upd_ne (ne_of_none hlb hdx)]; exact hlb)
    have s4 : Same H3 H4 := Same.made hx hdx k4
    have hS4' := hS4
    obtain ⟨dx5, g, sm0, gs, kvs0, f1, _⟩ := hS4'
    refine ⟨by decide, fun z hz => ⟨_, rfl, z, _, _, rfl, rfl, upd_same, by omega, by omega, small' (by simp; omega), fun w0 hw0 => ⟨(by decide : 3 ≤ sizeLine), fun tp htp => ?_⟩⟩⟩
    have s5 : Same H4 (upd (upd H4 z (.lst [.int 0])) w0 (.lst (List.replicate ((n : Int)).toNat [V.int 0]).flatten)) := (same_upd hz).trans (same_upd hw0)
    have ew0 : (upd (upd H4 z (.lst [.int 0])) w0 (.lst (List.replicate ((n : Int)).toNat [V.int 0]).flatten)) w0 = some (.lst (vL (Ow.waysN n []))) := by rw [upd_same, Int.toNat_natCast, ways_nil]
    refine ⟨tp, _, rfl, sqT_new upd_same, rfl, _, _, rfl, _, _, rfl, _, _, rfl, rfl, ?_⟩
    have s6 := s5.trans (same_upd (o := .tup [.ref x, .ref w0, .int 1]) htp)
    have ew1 := (same_upd (o := .tup [.ref x, .ref w0, .int 1]) htp) _ _ ew0
    obtain ⟨H6, eH6⟩ : ∃ H6, H6 = upd (upd (upd H4 z (.lst [.int 0])) w0 (.lst (List.replicate ((n : Int)).toNat [V.int 0]).flatten)) tp (.tup [.ref x, .ref w0, .int 1]) := ⟨_, rfl⟩
    rw [← eH6] at s6 ew1
    rw [← eH6]
    have s06 : Same H H6 := s3.trans (s4.trans s6)
    have hlb6 : H6 lb = some (.lst (vL bs)) := s6 _ _ (s4 _ _ hlb)
    have hS6 := hS4.same s6
    have f6 := s6 _ _ f1
    refine ⟨_, rfl, lb, _, rfl, sqL_new hlb6, for_it walk_enum (fun i σ H' => Same H6 H' ∧ ∃ wy y6 y7, σ = [some (.ref a), some (vN n), some (.ref lb), some (.ref x), some (.ref wy), some (vN (Ow.prodC n (Ow.span bs) bs i)), y6, y7, none, none] ∧ H' wy = some (.lst (vL (Ow.waysN n (bs.take i))))) ⟨Same.refl _, w0, none, none, rfl, ew1⟩ (fun i σ H' _ h => sqL_new (h.1 _ _ hlb6)) ?_ ?_⟩
    · rintro i v σ H7 H8 hi ⟨s7, wy, y6, y7, rfl, hwy⟩ ⟨T1, x1, x2, rfl, hT, rfl, ex1, ex2⟩
      have hi' : i < bs.length := by rw [vL_length] at hi; exact hi
      have hbi : bs[i]? = some bs[i] := List.getElem?_eq_getElem hi'
      have e1 : x1 = vN i := (Option.some.inj ex1).symm
      have e2 : x2 = vN bs[i] := vL_some hbi ex2
      subst e1 e2
      have hti : (bs.take i).length = i := by rw [List.length_take]; omega
      refine ⟨T1, _, rfl, sqT_new upd_same, rfl, _, _, rfl, _, _, rfl, rfl, ?_⟩
      have s8 := s7.trans (same_upd (o := .tup [vN i, vN bs[i]]) hT)
      have hwy8 := (same_upd (o := .tup [vN i, vN bs[i]]) hT) _ _ hwy
      refine ⟨_, rfl, _, rfl, x, _, _, rfl, s8 _ _ f6, rfl, _, rfl, _, rfl, x, wy, n, bs, Ow.span bs, bs.take i, (by rw [hti]; rfl), hS6.same s8, by omega, hwy8, hsp, hn, fun H9 la zs s9 hla pz => ?_⟩
      have hFl : ((Ow.span bs).filter (Ow.okStep n bs (bs.take i))).length ≤ 32 := Nat.le_trans (List.length_filter_le _ _) hsp
      refine ⟨la, rfl, ⟨_, sqL_new hla⟩, fun D hD => lcGW walk_list ((Ow.span bs).filter (Ow.okStep n bs (bs.take i))) (fun w => (Ow.ext n (Ow.span bs) bs (bs.length - i - 1) (bs.take i ++ [w])).isSome) (fun _ _ _ => True) (Paired.length' pz) hD (fun H s => sqL_new (s _ _ hla)) (small (by omega)) (fun _ _ _ _ _ _ => trivial) ?_ ?_⟩
      · rintro j c v H10 H11 Qn Qs hb s10 ⟨rfl, hx⟩ acc k1 k2
        obtain ⟨r, rfl, hr1⟩ := Paired.at pz hb hx
        refine ⟨rfl, _, rfl, x, _, _, rfl, s10 _ _ (s9 _ _ (s8 _ _ f6)), rfl, _, rfl, _, rfl, _, 1, rfl, rfl, bs.length - i - 1, x, r, n, bs, Ow.span bs, bs.take i ++ [c], by omega, (by rw [List.length_append, hti]; rfl), hS6.same (s8.trans (s9.trans s10)), by rw [List.length_append, hti, List.length_singleton]; omega, s10 _ _ hr1, hsp, hn, fun hz H12 s12 => ?_, fun ws hws H12 r2 s12 hr2 => ?_⟩
        · exact ⟨rfl, _, rfl, k2 (by rw [hz]; rfl) _ s12⟩
        · exact ⟨rfl, _, rfl, _, rfl, k1 (by rw [hws]; rfl) _ _ s12 trivial⟩
      · intro H10 ys s10 hy py
        have hyl := Paired.length' py
        have hcA : ys.length = Ow.cAt n (Ow.span bs) bs i := hyl.symm
        have hc32 : ys.length ≤ 32 := by rw [← hyl]; exact Nat.le_trans (List.length_filter_le _ _) hFl
        refine ⟨D, _, rfl, .inl (sqL_new hy), _, _, rfl, rfl, .inr (by omega), ?_⟩
        have s010 := s8.trans (s9.trans s10)
        refine ⟨_, rfl, _, rfl, wy, n, _, bs.take i, rfl, sqL_new ((s9.trans s10) _ _ hwy8), hn, fun H11 wy2 _ s11 hwy2 => ?_⟩
        refine ⟨s010.trans s11, wy2, some (vN i), some (vN bs[i]), ?_, by rw [take_succ hbi]; exact hwy2⟩
        have ep : Ow.prodC n (Ow.span bs) bs (i + 1) = Ow.prodC n (Ow.span bs) bs i * ys.length := by rw [hcA]; rfl
        rw [ep]
        rfl
    · rintro σ H7 ⟨s7, wy, y6, y7, rfl, hwy⟩
      rw [vL_length, List.take_length] at hwy
      rw [vL_length]
      obtain ⟨N, eN⟩ : ∃ N, N = Ow.waysN n bs := ⟨_, rfl⟩
      rw [← eN] at hwy
      have hNl : N.length = n := by rw [eN, Ow.waysN_length]
      refine ⟨_, rfl, wy, N.map iN, rfl, sqL_new (by rw [map_nat_int]; exact hwy), by rw [List.length_map]; omega, fun ps c hps hc => ?_⟩
      rw [List.length_map] at hc
      refine ⟨ps, _, c, rfl, upd_same, by omega, fun ns qa hns hmem hlen hqa => ?_⟩
      obtain ⟨ds, eds, hnd, hdm⟩ := ints_set (N := N) hns fun k => (hmem k).trans decide_eq_true_iff
      subst eds
      have hqa2 : ∀ H', Same (upd (upd H7 ps (SetO w ps (fun j => decide (j ∈ N.map iN)) c)) qa (.lst ((ds.map iN).map V.int))) H' → SqL K H' qa (vL ds) := fun H' s => sqL_new (by rw [← map_nat_int]; exact s _ _ upd_same)
      have s78 : Same H7 (upd (upd H7 ps (SetO w ps (fun j => decide (j ∈ N.map iN)) c)) qa (.lst ((ds.map iN).map V.int))) := (same_upd hps).trans (same_upd hqa)
      obtain ⟨H8, eH8⟩ : ∃ H8, H8 = upd (upd H7 ps (SetO w ps (fun j => decide (j ∈ N.map iN)) c)) qa (.lst ((ds.map iN).map V.int)) := ⟨_, rfl⟩
      have hqa3 : ∀ H', Same H8 H' → SqL K H' qa (vL ds) := fun H' s => hqa2 H' (by rw [← eH8]; exact s)
      rw [← eH8] at s78
      refine ⟨qa, rfl, ⟨vL ds, (by rw [← map_nat_int]; exact sqL_new upd_same)⟩, for_list (K := K) (a := qa) (xs := vL ds) (fun i σ H' => Same H8 H' ∧ ∃ y6 y7 y8, σ = [some (.ref a), some (vN n), some (.ref lb), some (.ref x), some (.ref wy), some (vN (Ow.prodC n (Ow.span bs) bs bs.length * Ow.prodF N (ds.take i))), y6, y7, y8, none]) ⟨by rw [eH8]; exact Same.refl _, y6, y7, none, (by rw [List.take_zero]; show _ = [_, _, _, _, _, some (vN (_ * 1)), _, _, _, _]; rw [Nat.mul_one])⟩ (fun i σ H' _ h => hqa3 H' h.1) ?_ ?_⟩
      · rintro i v σ H9 hi ⟨s9, z6, z7, z8, rfl⟩
        obtain ⟨v, hv, rfl⟩ := vL_get hi
        refine ⟨_, rfl, _, rfl, wy, rfl, ⟨_, sqL_new (s9 _ _ (s78 _ _ hwy))⟩, fun D hD => lcGL (fun x => decide (x = v)) (fun b y _ => y = vN b) hD (sqL_new (s9 _ _ (s78 _ _ hwy))) (small (by omega)) pure_stays ?_ ?_⟩
        · intro b H10 Qn Qs hb s _ k1 k2
          refine ⟨rfl, _, rfl, _, rfl, _, _, rfl, rfl, _, rfl, ite2 (fun e => ?_) fun e => ?_⟩
          · exact ⟨_, rfl, k1 e _ _ (Same.refl _) rfl⟩
          · exact k2 (Bool.not_eq_true _ ▸ e) _ (Same.refl _)
        · intro H10 ys s10 hy py
          have hyl : ys.length = N.count v := by
            rw [← Paired.length' py, List.count_eq_length_filter]
            exact congrArg List.length (List.filter_congr fun x _ => by rw [Bool.eq_iff_iff, decide_eq_true_iff, beq_iff_eq])
          have hc10 : N.count v ≤ 10 := Nat.le_trans List.count_le_length (by omega)
          refine ⟨D, _, rfl, .inl (sqL_new hy), N.count v, (by rw [hyl]; rfl), by omega, _, _, rfl, rfl, .inr (Ow.fact_small _ hc10), s9.trans s10, z6, z7, some (vN v), ?_⟩
          rw [take_succ hv, Ow.prodF_snoc, ← Nat.mul_assoc]
          rfl
      · rintro σ H9 ⟨s9, z6, z7, z8, rfl⟩
        rw [vL_length, List.take_length]
        have hdue := Ow.exchanges_due oB hm h1 h5 hbs
        rw [← eN, ← Ow.prodF_eq hnd (fun v hv => (hdm v).mpr hv)] at hdue
        refine ⟨_, rfl, ?_⟩
        rw [hdue]
        exact q H9 (s06.trans (s7.trans (s78.trans s9)))
abbrev N_own_exchanges : List Str := ["room"]
theorem sc_own_exchanges : FnScope N_own_exchanges ["room"] (defScope s_own_exchanges) := ⟨rfl, rfl, rfl, by decide +kernel, rfl, by decide +kernel, by decide +kernel⟩
theorem cal_own_exchanges (T : Tx K mg) : Cal P w K mg base 10 "own_exchanges" (sp_exch K) := by
  refine calD (ps := ["room"]) T.f_own_exchanges (fun _ _ _ _ _ _ us hl => match us, hl with | [_], _ => rfl) sc_own_exchanges (fun vs H Q E h => ?_) (fun cdv A outer s H vs Q E hr h => ?_)
  · obtain ⟨a, n, m, B, rfl, _⟩ := h
    rfl
  · obtain ⟨a, n, m, B, rfl, hA, oB, hm, h1, h5, q⟩ := h
    have hA' := hA
    obtain ⟨dx, b1, ha, hb1⟩ := hA
    refine ⟨_, (pss_cons (ps_expr (pe_c (cal_want_room T) hr (by decide) (by rfl) (pa_cons (pv 0) pa_nil)))
      (pss_cons (ps_expr (pe_c (cal_want_at_most T) hr (by decide) (by rfl) (pa_cons pe_str (pa_cons (pe_ci rfl T.c_MOST_PLACES_alike) (pa_cons (pe_fld (pv 0) rfl) pa_nil)))))
      (pss_one (ps_ret (pe_c (cal_exchanges_of T) hr (by decide) (by rfl) (pa_cons (pv 0) pa_nil)))))), ?_⟩
    refine ⟨_, rfl, a, n, B, rfl, hA', ?_⟩
    refine ⟨_, rfl, a, _, _, _, _, rfl, ha, T.cl_Room, T.no_own_places, lk3 n b1, _, 12, _, rfl, by omega, ?_⟩
    exact ⟨_, rfl, a, n, m, B, rfl, hA', oB, hm, h1, h5, q⟩
end
end Oc
set_option Elab.async false
set_option linter.all false
set_option maxRecDepth 100000
set_option maxHeartbeats 4000000
namespace Oc
open PySem PySem.Spec PyProof.Rows L2
theorem pe_no {X : Cx} {e : Expr} : PE X e (fun _ _ _ => False) := ⟨fun _ _ _ _ _ _ h => h.elim⟩
section
variable {P : Program} {w : World} {K : PySem.W.Frag} {mg : Str → Option Value} {base : Heap}
abbrev N_with_all : List Str := ["places", "basis"]
theorem sc_with_all : FnScope N_with_all ["places", "basis"] (defScope s_with_all) := ⟨rfl, rfl, rfl, by decide +kernel, rfl, by decide +kernel, by decide +kernel⟩
def sp_with_all (K : PySem.W.Frag) : Sp := fun vs H Q _ => ∃ (a : Addr) (n : Nat) (B : List Nat), vs = [vN n, .ref a] ∧ SqT K H a (vL B) ∧ B.length ≤ 100 ∧ n ≤ 24 ∧ ∀ (H' : Hp) (p : Addr), Same H H' → SqT K H' p (vL (Ow.withWord B (2 ^ n - 1))) → Q (.ref p) H'
theorem cal_with_all (T : Tx K mg) : Cal P w K mg base 3 "with_all" (sp_with_all K) := by
  refine calD (ps := ["places", "basis"]) T.f_with_all (fun _ _ _ _ _ _ us hl => match us, hl with | [_, _], _ => rfl) sc_with_all (fun vs H Q E h => ?_) (fun cdv A outer s H vs Q E hr h => ?_)
  · obtain ⟨a, n, B, rfl, _⟩ := h
    rfl
  · obtain ⟨a, n, B, rfl, hB, hl, hn, q⟩ := h
    refine ⟨_, (pss_one (ps_ret (pe_c (cal_with_word T) hr (by decide) (by rfl) (pa_cons (pv 1) (pa_cons (pe_c (cal_all_on T) hr (by decide) (by rfl) (pa_cons (pv 0) pa_nil)) pa_nil))))), ?_⟩
    exact ⟨_, rfl, _, rfl, n, rfl, by omega, a, B, _, rfl, hB, hl, q⟩
abbrev N_filled_basis : List Str := ["places", "basis", "found"]
theorem sc_filled_basis : FnScope N_filled_basis ["places", "basis"] (defScope s_filled_basis) := ⟨rfl, rfl, rfl, by decide +kernel, rfl, by decide +kernel, by decide +kernel⟩
def sp_filled_basis (K : PySem.W.Frag) : Sp := fun vs H Q _ => ∃ (a : Addr) (n : Nat) (B : List Nat), vs = [vN n, .ref a] ∧ SqT K H a (vL B) ∧ Ow.Way n B ∧ n ≤ 24 ∧ ∀ (H' : Hp) (p : Addr) (F : List Nat), Same H H' → SqT K H' p (vL F) → Ow.Own n F → Q (.ref p) H'
theorem cal_filled_basis (T : Tx K mg) : Cal P w K mg base 6 "filled_basis" (sp_filled_basis K) := by
  refine calD (ps := ["places", "basis"]) T.f_filled_basis (fun _ _ _ _ _ _ us hl => match us, hl with | [_, _], _ => rfl) sc_filled_basis (fun vs H Q E h => ?_) (fun cdv A outer s H vs Q E hr h => ?_)
  · obtain ⟨a, n, B, rfl, _⟩ := h
    rfl
  · obtain ⟨a, n, B, rfl, hB, hW, hn, q⟩ := h
    refine ⟨_, (pss_cons (ps_set (i := 2) sc_filled_basis.nd rfl (.inl rfl) (pv 1))
      (pss_cons (ps_while PassesOwn.never (pt_cmpR op_ltN (pe_op op_mulN pe_int (pe_callB call_len_seq (by rfl) T.b_len bt_len (pa_cons (pv 2) pa_nil))) (pv 0) (nomark _))
        (pss_one (ps_set (i := 2) sc_filled_basis.nd rfl (.inl rfl) (pe_c (cal_with_word T) hr (by decide) (by rfl) (pa_cons (pv 2) (pa_cons (pe_c (cal_missing_word T) hr (by decide) (by rfl) (pa_cons (pv 0) (pa_cons (pv 2) pa_nil))) pa_nil))))))
      (pss_one (ps_ret (pv 2))))), ?_⟩
    have hh : ∀ {F}, Ow.Way n F → 2 * F.length ≤ n := fun h => Ow.still_half h.plain h.lt hn h.still
    refine ⟨_, rfl, fun m σ H' => ∃ (F : List Nat) (p : Addr), σ = [some (vN n), some (.ref a), some (.ref p)] ∧ Same H H' ∧ SqT K H' p (vL F) ∧ Ow.Way n F ∧ m + F.length = n, ⟨n - B.length, B, a, rfl, Same.refl H, hB, hW, by have := hh hW; omega⟩, ?_⟩
    rintro m σ H1 ⟨F, p, rfl, s1, hp, hF, em⟩
    refine ⟨_, rfl, p, _, rfl, .inr hp, 2, F.length, rfl, (by rw [vL_length]), .inl (by decide), _, rfl, _, _, rfl, rfl, _, rfl, ite2 (fun e => ?_) fun e => ?_⟩
    · have e0 : 2 * F.length < n := of_decide_eq_true e
      obtain ⟨w, hw⟩ := Ow.missing_some hF.plain hF.lt e0
      obtain ⟨g1, g2⟩ := Ow.way_step hF hn hw
      refine ⟨fun σ' H' => ∃ (F : List Nat) (p : Addr), σ' = [some (vN n), some (.ref a), some (.ref p)] ∧ Same H H' ∧ SqT K H' p (vL F) ∧ Ow.Way n F ∧ m - 1 + F.length = n, fun σ' H' h => ⟨m - 1, by omega, h⟩, ?_⟩
      refine ⟨_, rfl, _, rfl, _, rfl, p, n, F, w, rfl, hp, hF.plain, hF.lt, hn, hw, fun H2 s2 => ⟨p, F, w, rfl, s2.tup hp, by omega, fun H3 p3 s3 hp3 => ?_⟩⟩
      exact ⟨_, p3, rfl, (s1.trans s2).trans s3, hp3, g1, by rw [g2]; omega⟩
    · have e0 : ¬ 2 * F.length < n := fun z => e (decide_eq_true z)
      exact ⟨_, rfl, q H1 p F s1 hp (Ow.way_own hF e0 hn)⟩
abbrev N_filled : List Str := ["room", "places"]
theorem sc_filled : FnScope N_filled ["room"] (defScope s_filled) := ⟨rfl, rfl, rfl, by decide +kernel, rfl, by decide +kernel, by decide +kernel⟩
def sp_filled (K : PySem.W.Frag) : Sp := fun vs H Q _ => ∃ (a : Addr) (n : Nat) (B : List Nat), vs = [.ref a] ∧ RoomAt K H a n B ∧ Ow.Plain B ∧ (∀ b ∈ B, b < 2 ^ n) ∧ Ow.Still B ∧ n ≤ 24 ∧ n % 2 = 0 ∧ ∀ (H' : Hp) (p : Addr) (F : List Nat), Same H H' → RoomAt K H' p n F → Ow.Own n F → Q (.ref p) H'
theorem cal_filled (T : Tx K mg) : Cal P w K mg base 10 "filled" (sp_filled K) := by
  refine calD (ps := ["room"]) T.f_filled (fun _ _ _ _ _ _ us hl => match us, hl with | [_], _ => rfl) sc_filled (fun vs H Q E h => ?_) (fun cdv A outer s H vs Q E hr h => ?_)
  · obtain ⟨a, n, B, rfl, _⟩ := h
    rfl
  · obtain ⟨a, n, B, rfl, hA, hP, hl, hS, hn, he, q⟩ := h
    have hA' := hA
    obtain ⟨dx, b1, ha, hb1⟩ := hA
    have h24 : ∀ b ∈ B, b < 2 ^ 24 := fun b hb => Nat.lt_of_lt_of_le (hl b hb) (Nat.pow_le_pow_right (by decide) hn)
    have hh := Ow.still_half hP hl hn hS
    refine ⟨_, (pss_cons (ps_expr (pe_c (cal_want_still T) hr (by decide) (by rfl) (pa_cons (pv 0) pa_nil)))
      (pss_cons (ps_set (i := 1) sc_filled.nd rfl (.inl rfl) (pe_fld (pv 0) rfl))
      (pss_cons (ps_if (pt_cmpR op_eqN (pe_op op_andN (pv 1) pe_int) pe_int (nomark _))
        (pss_one (ps_ret pe_non))
        pss_nil)
      (pss_one (ps_ret (pe_c (cal_room_by T) hr (by decide) (by rfl) (pa_cons (pv 1) (pa_cons (pe_c (cal_filled_basis T) hr (by decide) (by rfl) (pa_cons (pv 1) (pa_cons (pe_c (cal_with_all T) hr (by decide) (by rfl) (pa_cons (pv 1) (pa_cons (pe_fld (pv 0) rfl) pa_nil))) pa_nil))) pa_nil)))))))), ?_⟩
    refine ⟨_, rfl, a, n, B, rfl, hA', hS, h24, by omega, fun H1 s1 => ?_⟩
    have ha1 := s1 _ _ ha
    refine ⟨_, rfl, a, _, _, _, _, rfl, ha1, T.cl_Room, T.no_own_places, lk3 n b1, ?_⟩
    refine ⟨_, rfl, _, 1, rfl, rfl, _, 1, rfl, rfl, _, rfl, ite2 (fun e => ?_) fun e => ?_⟩
    · have e0 : n &&& 1 = 1 := of_decide_eq_true e
      rw [Nat.and_one_is_mod] at e0
      omega
    · refine ⟨_, rfl, _, rfl, _, rfl, _, rfl, a, _, _, _, _, rfl, ha1, T.cl_Room, T.no_own_basis, lk4 n b1, b1, n, B, rfl, s1.tup hb1, by omega, hn, fun H2 p2 s2 hp2 => ?_⟩
      refine ⟨p2, n, _, rfl, hp2, Ow.way_start hP hl hS hn he, hn, fun H3 p3 F s3 hp3 hF => ?_⟩
      exact ⟨p3, n, F, rfl, hp3, fun H4 p4 s4 hR => q H4 p4 F (s1.trans (s2.trans (s3.trans s4))) hR hF⟩
abbrev N_pairs_of : List Str := ["room", "word"]
theorem sc_pairs_of : FnScope N_pairs_of ["room"] (defScope s_pairs_of) := ⟨rfl, rfl, rfl, by decide +kernel, rfl, by decide +kernel, by decide +kernel⟩
def sp_pairs_of (K : PySem.W.Frag) : Sp := fun vs H Q _ => ∃ (a : Addr) (n : Nat) (B : List Nat), vs = [.ref a] ∧ RoomAt K H a n B ∧ B.length ≤ 24 ∧ (∀ b ∈ B, b < 2 ^ 24) ∧ ∀ (H' : Hp) (p : Addr), Same H H' → H' p = some (.lst (vL (Ow.pairsOf B))) → Q (.ref p) H'
theorem cal_pairs_of (T : Tx K mg) : Cal P w K mg base 2 "pairs_of" (sp_pairs_of K) := by
  refine calD (ps := ["room"]) T.f_pairs_of (fun _ _ _ _ _ _ us hl => match us, hl with | [_], _ => rfl) sc_pairs_of (fun vs H Q E h => ?_) (fun cdv A outer s H vs Q E hr h => ?_)
  · obtain ⟨a, n, B, rfl, _⟩ := h
    rfl
  · obtain ⟨a, n, B, rfl, ⟨dx, b1, ha, hb1⟩, hl, h24, q⟩ := h
    refine ⟨_, (pss_one (ps_ret (pe_callB cr_sortedN (by rfl) T.b_sorted bt_sorted (pa_cons (pe_lc (own := [("word", 1)]) (by rfl) sc_pairs_of.nd (pi_tup (pe_fld (pv 0) rfl)) (blkOk_by (N := N_pairs_of) (sc := defScope s_pairs_of) (by decide +kernel)) (fun _ _ _ _ _ => (pg_name (i := 1) sc_pairs_of.nd rfl (.inl rfl))) (fun _ _ _ _ _ => (pts_one (pt_cmpR op_eqN (pe_c (cal_weight_of T) hr (by decide) (by rfl) (pa_cons (pv 1) pa_nil)) pe_int (nomark _)))) (fun _ _ _ _ _ => (pv 1))) pa_nil)))), ?_⟩
    refine ⟨_, rfl, a, _, _, _, _, rfl, ha, T.cl_Room, T.no_own_basis, lk4 n b1, b1, rfl, ⟨_, hb1⟩, fun D hD => lcGT (fun w => decide (Ow.wt w = 2)) (fun b y _ => y = vN b) hD hb1 (small (by omega)) pure_stays ?_ ?_⟩
    · intro b H2 Qn Qs hb s _ k1 k2
      refine ⟨rfl, _, rfl, b, rfl, h24 b hb, _, 2, rfl, rfl, _, rfl, ite2 (fun e => ?_) fun e => ?_⟩
      · exact ⟨_, rfl, k1 e _ _ (Same.refl _) rfl⟩
      · exact k2 (Bool.not_eq_true _ ▸ e) _ (Same.refl _)
    · intro H2 ys s1 hy pr
      have ey := Paired.eq_map pr
      subst ey
      have ef : (B.filter fun w => decide (Ow.wt w = 2)) = B.filter Ow.isPair := List.filter_congr fun b _ => by unfold Ow.isPair; rw [Bool.eq_iff_iff, decide_eq_true_iff, beq_iff_eq]
      rw [ef] at hy
      refine ⟨D, B.filter Ow.isPair, rfl, sqL_new hy, by have := List.length_filter_le Ow.isPair B; omega, fun p hp => ?_⟩
      exact q _ p (s1.trans (same_upd hp)) upd_same
abbrev N_without_pairs : List Str := ["room", "left", "word"]
theorem sc_without_pairs : FnScope N_without_pairs ["room"] (defScope s_without_pairs) := ⟨rfl, rfl, rfl, by decide +kernel, rfl, by decide +kernel, by decide +kernel⟩
def sp_without_pairs (K : PySem.W.Frag) : Sp := fun vs H Q _ => ∃ (a : Addr) (n : Nat) (B : List Nat), vs = [.ref a] ∧ RoomAt K H a n B ∧ Ow.Own n B ∧ n ≤ 24 ∧ ∀ (H' : Hp) (p : Addr), Same H H' → SqT K H' p (vL (Ow.heavyOf B)) → Q (.ref p) H'
theorem cal_without_pairs (T : Tx K mg) : Cal P w K mg base 5 "without_pairs" (sp_without_pairs K) := by
  refine calD (ps := ["room"]) T.f_without_pairs (fun _ _ _ _ _ _ us hl => match us, hl with | [_], _ => rfl) sc_without_pairs (fun vs H Q E h => ?_) (fun cdv A outer s H vs Q E hr h => ?_)
  · obtain ⟨a, n, B, rfl, _⟩ := h
    rfl
  · obtain ⟨a, n, B, rfl, hA, oB, hn, q⟩ := h
    have hA' := hA
    obtain ⟨dx, b1, ha, hb1⟩ := hA
    have hBl := oB.half
    have h24 : ∀ b ∈ B, b < 2 ^ 24 := fun b hb => Nat.lt_of_lt_of_le (oB.lt b hb) (Nat.pow_le_pow_right (by decide) hn)
    refine ⟨_, (pss_cons (ps_set (i := 1) sc_without_pairs.nd rfl (.inl rfl) (pe_c (cal_all_on T) hr (by decide) (by rfl) (pa_cons (pe_fld (pv 0) rfl) pa_nil)))
      (pss_cons (ps_for PassesOwn.never rfl (pi_list (pe_c (cal_pairs_of T) hr (by decide) (by rfl) (pa_cons (pv 0) pa_nil))) (pg_name (i := 2) sc_without_pairs.nd rfl (.inl rfl))
        (pss_one (ps_set (i := 1) sc_without_pairs.nd rfl (.inl rfl) (pe_op op_and (pv 1) (pe_un un_inv (pv 2))))))
      (pss_one (ps_ret (pe_c (cal_shortened_basis T) hr (by decide) (by rfl) (pa_cons (pe_fld (pv 0) rfl) (pa_cons (pv 1) (pa_cons (pe_fld (pv 0) rfl) pa_nil)))))))), ?_⟩
    refine ⟨_, rfl, a, _, _, _, _, rfl, ha, T.cl_Room, T.no_own_places, lk3 n b1, n, rfl, by omega, ?_⟩
    refine ⟨_, rfl, a, n, B, rfl, hA', by omega, h24, fun H1 la s1 hla => ?_⟩
    have ha1 := s1 _ _ ha
    refine ⟨la, rfl, ⟨_, sqL_new hla⟩, for_list (K := K) (a := la) (xs := vL (Ow.pairsOf B)) (fun i σ H' => H' = H1 ∧ ∃ y, σ = [some (.ref a), some (vN (((Ow.pairsOf B).take i).foldl Ow.andNot (2 ^ n - 1))), y]) ⟨rfl, _, rfl⟩ (fun i σ H' _ h => by rw [h.1]; exact sqL_new hla) ?_ ?_⟩
    · rintro i x σ H2 hx ⟨rfl, y, rfl⟩
      obtain ⟨c, hc, rfl⟩ := vL_get hx
      refine ⟨_, rfl, _, rfl, _, rfl, _, _, rfl, rfl, rfl, some (vN c), ?_⟩
      rw [take_succ hc, List.foldl_append]
      exact congrArg (fun z => [some (V.ref a), some (V.int z), some (vN c)]) (bAndNot _ c)
    · rintro σ H2 ⟨rfl, y, rfl⟩
      rw [vL_length, List.take_length]
      refine ⟨_, rfl, a, _, _, _, _, rfl, ha1, T.cl_Room, T.no_own_basis, lk4 n b1, _, rfl, _, rfl, a, _, _, _, _, rfl, ha1, T.cl_Room, T.no_own_places, lk3 n b1, b1, n, _, B, rfl, s1.tup hb1, by omega, h24, hn, fun H3 p3 s3 hp3 => ?_⟩
      refine q H3 p3 (s1.trans s3) ?_
      rw [← Ow.withoutPairs_eq oB hn]
      exact hp3
abbrev N_kind_name : List Str := ["size", "dimension"]
theorem sc_kind_name : FnScope N_kind_name ["size", "dimension"] (defScope s_kind_name) := ⟨rfl, rfl, rfl, by decide +kernel, rfl, by decide +kernel, by decide +kernel⟩
def sp_kind_name : Sp := fun vs H Q _ => vs = [vN 8, vN 4] ∧ Q (.str "e8") H
theorem cal_kind_name (T : Tx K mg) : Cal P w K mg base 1 "kind_name" sp_kind_name := by
  refine calD (ps := ["size", "dimension"]) T.f_kind_name (fun _ _ _ _ _ _ us hl => match us, hl with | [_, _], _ => rfl) sc_kind_name (fun vs H Q E h => ?_) (fun cdv A outer s H vs Q E hr h => ?_)
  · obtain ⟨rfl, _⟩ := h
    rfl
  · obtain ⟨rfl, q⟩ := h
    refine ⟨_, (pss_cons (ps_if (pt_cmpR op_eqN (pv 0) pe_int (nomark _))
        (pss_one (ps_ret pe_str))
        pss_nil)
      (pss_one (ps_ret (pe_ifExp (PW.pt (pw_and (pt_cmpR op_eqN (pv 0) pe_int (nomark _)) (pw_and1 (pt_cmpR op_eqN (pv 1) (pe_ci rfl T.c_FOUR) (nomark _))))) pe_str pe_no)))), ?_⟩
    refine ⟨_, rfl, 8, 7, rfl, rfl, _, rfl, ?_⟩
    refine ⟨_, rfl, 8, 8, rfl, rfl, _, rfl, ?_⟩
    exact ⟨_, rfl, 4, 4, rfl, rfl, _, rfl, q⟩
/-- the fours' kinds of a room: none, or e8 with its places -/
def LotsAt (H : Hp) (p : Addr) (B : List Nat) : Prop := (Ow.heavyOf B = [] ∧ H p = some (.lst [])) ∨ (Ow.heavyOf B ≠ [] ∧ ∃ t s, H p = some (.lst [.ref t]) ∧ H t = some (.tup [.str "e8", .ref s]) ∧ H s = some (.lst (vL (Ow.spots (Ow.union (Ow.heavyOf B))))))
theorem LotsAt.same {H H' : Hp} {p : Addr} {B : List Nat} (h : LotsAt H p B) (s : Same H H') : LotsAt H' p B := by
  rcases h with ⟨h1, h2⟩ | ⟨h1, t, sp, h2, h3, h4⟩
  · exact .inl ⟨h1, s _ _ h2⟩
  · exact .inr ⟨h1, t, sp, s _ _ h2, s _ _ h3, s _ _ h4⟩
theorem perm_nil_lots {ys : List V} (h : ys.Perm []) : ys = [] := List.perm_nil.mp h
abbrev N_lots_of : List Str := ["room", "fours", "basis", "found", "mask", "spots", "dimension", "word"]
theorem sc_lots_of : FnScope N_lots_of ["room"] (defScope s_lots_of) := ⟨rfl, rfl, rfl, by decide +kernel, rfl, by decide +kernel, by decide +kernel⟩
def sp_lots_of (K : PySem.W.Frag) : Sp := fun vs H Q _ => ∃ (a : Addr) (n m : Nat) (B : List Nat), vs = [.ref a] ∧ RoomAt K H a n B ∧ Ow.Own n B ∧ n = 2 * m ∧ 1 ≤ m ∧ m ≤ 5 ∧ ∀ (H' : Hp) (p : Addr), Same H H' → LotsAt H' p B → Q (.ref p) H'
theorem cal_lots_of (T : Tx K mg) : Cal P w K mg base 6 "lots_of" (sp_lots_of K) := by
  refine calD (ps := ["room"]) T.f_lots_of (fun _ _ _ _ _ _ us hl => match us, hl with | [_], _ => rfl) sc_lots_of (fun vs H Q E h => ?_) (fun cdv A outer s H vs Q E hr h => ?_)
  · obtain ⟨a, n, m, B, rfl, _⟩ := h
    rfl
  · obtain ⟨a, n, m, B, rfl, hA, oB, hm, h1, h5, q⟩ := h
    have hBl := oB.half
    have hn : n ≤ 24 := by omega
    obtain ⟨kd, _⟩ := oB.kinds hm h1 h5
    have h24 : ∀ b ∈ B, b < 2 ^ 24 := fun b hb => Nat.lt_of_lt_of_le (oB.lt b hb) (Nat.pow_le_pow_right (by decide) hn)
    have hhl : (Ow.heavyOf B).length ≤ 5 := Nat.le_trans (List.length_filter_le _ _) (by omega)
    have hh24 : ∀ b ∈ Ow.heavyOf B, b < 2 ^ 24 := fun b hb => h24 b (List.mem_filter.mp hb).1
    have hsp : (Ow.span (Ow.heavyOf B)).length ≤ 32 := by
      rw [Ow.length_span]
      exact Nat.le_trans (Nat.pow_le_pow_right (by decide) hhl) (by decide)
    refine ⟨_, (pss_cons (ps_setLc (i := 1) (own := [("word", 7)]) (by rfl) sc_lots_of.nd rfl rfl (sw_true rfl rfl rfl (by decide +kernel)) (pi_list (pe_c (cal_all_words T) hr (by decide) (by rfl) (pa_cons (pe_c (cal_without_pairs T) hr (by decide) (by rfl) (pa_cons (pv 0) pa_nil)) pa_nil))) (blkOk_by (N := N_lots_of) (sc := defScope s_lots_of) (by decide +kernel)) (fun _ _ _ _ _ => (pg_name (i := 7) sc_lots_of.nd rfl (.inl rfl))) (fun _ _ _ _ _ => (pts_one (pt_cmpR op_eqN (pe_c (cal_weight_of T) hr (by decide) (by rfl) (pa_cons (pv 7) pa_nil)) (pe_ci rfl T.c_FOUR) (nomark _)))) (fun _ _ _ _ _ => (pv 7)))
      (pss_cons (ps_par (i := 2) (j := 3) (by rfl) sc_lots_of.nd rfl rfl (by decide) rfl rfl (pa_cons (pe_c (cal_plain_basis T) hr (by decide) (by rfl) (pa_cons (pv 1) pa_nil)) (pa_cons (pe_lst pa_nil) pa_nil)) (by rfl))
      (pss_cons (ps_for PassesOwn.never rfl (pi_list (pe_c (cal_masks_of T) hr (by decide) (by rfl) (pa_cons (pv 2) pa_nil))) (pg_name (i := 4) sc_lots_of.nd rfl (.inr rfl))
        (pss_cons (ps_set (i := 5) sc_lots_of.nd rfl (.inl rfl) (pe_c (cal_spots_of T) hr (by decide) (by rfl) (pa_cons (pv 4) pa_nil)))
        (pss_cons (ps_set (i := 6) sc_lots_of.nd rfl (.inl rfl) (pe_callB call_len_seq (by rfl) T.b_len bt_len (pa_cons (pe_lc (own := [("word", 7)]) (by rfl) sc_lots_of.nd (pi_tup (pv 2)) (blkOk_by (N := N_lots_of) (sc := defScope s_lots_of) (by decide +kernel)) (fun _ _ _ _ _ => (pg_name (i := 7) sc_lots_of.nd rfl (.inl rfl))) (fun _ _ _ _ _ => (pts_one (pt_cmpR op_neN (pe_op op_andN (pv 7) (pv 4)) pe_int (nomark _)))) (fun _ _ _ _ _ => (pv 7))) pa_nil)))
        (pss_one (ps_expr (pe_bm PySem.F.plainAttrs_list PySem.F.slot_list_append PySem.F.type_list_append mt_append (pv 3) (pa_cons (pe_tup (pa_cons (pe_c (cal_kind_name T) hr (by decide) (by rfl) (pa_cons (pe_callB call_len_seq (by rfl) T.b_len bt_len (pa_cons (pv 5) pa_nil)) (pa_cons (pv 6) pa_nil))) (pa_cons (pv 5) pa_nil))) pa_nil)))))))
      (pss_one (ps_ret (pe_callB (cr_sortedD hr.units) (by rfl) T.b_sorted bt_sorted (pa_cons (pv 3) pa_nil))))))), ?_⟩
    refine ⟨_, rfl, a, n, B, rfl, hA, oB, hn, fun H1 p1 s1 hp1 => ⟨p1, Ow.heavyOf B, rfl, .inr hp1, by omega, fun H2 la s2 hla => ?_⟩⟩
    refine ⟨la, rfl, ⟨_, sqL_new hla⟩, fun D hD => lcGL (fun w => decide (Ow.wt w = 4)) (fun b y _ => y = vN b) hD (sqL_new hla) (small (by omega)) pure_stays ?_ ?_⟩
    · intro b H3 Qn Qs hb s _ k1 k2
      refine ⟨rfl, _, rfl, b, rfl, Ow.span_lt hh24 hb, _, 4, rfl, rfl, _, rfl, ite2 (fun e => ?_) fun e => ?_⟩
      · exact ⟨_, rfl, k1 e _ _ (Same.refl _) rfl⟩
      · exact k2 (Bool.not_eq_true _ ▸ e) _ (Same.refl _)
    · intro H3 ys s3 hy pr
      have ey := Paired.eq_map pr
      subst ey
      have ef : ((Ow.span (Ow.heavyOf B)).filter fun w => decide (Ow.wt w = 4)) = Ow.foursOf (Ow.heavyOf B) := List.filter_congr fun b _ => by rw [Bool.eq_iff_iff, decide_eq_true_iff, beq_iff_eq]
      rw [ef] at hy
      have hfl : (Ow.foursOf (Ow.heavyOf B)).length ≤ 32 := Nat.le_trans (List.length_filter_le _ _) hsp
      refine ⟨_, rfl, D, _, rfl, sqL_new hy, by omega, fun H4 pb s4 hpb => ?_⟩
      rw [Ow.fours_basis oB kd] at hpb
      refine ⟨Nat.zero_le _, fun f hf => ⟨_, _, rfl, ?_⟩⟩
      refine ⟨_, rfl, pb, _, rfl, (same_upd hf).tup hpb, by omega, fun H5 mk s5 hmk => ?_⟩
      have s45 : Same H4 H5 := (same_upd hf).trans s5
      have hf5 : H5 f = some (.lst []) := s5 _ _ upd_same
      have s05 : Same H H5 := s1.trans (s2.trans (s3.trans (s4.trans s45)))
      by_cases hz : Ow.heavyOf B = []
      · have hm0 := Ow.lots_none hz
        rw [hm0] at hmk
        refine ⟨mk, rfl, ⟨_, sqL_new hmk⟩, for_list (K := K) (a := mk) (xs := []) (fun i σ H' => H' = H5 ∧ ∃ y4 y5 y6, σ = [some (.ref a), some (.ref D), some (.ref pb), some (.ref f), y4, y5, y6, none]) ⟨rfl, none, none, none, rfl⟩ (fun i σ H' _ h => by rw [h.1]; exact sqL_new hmk) ?_ ?_⟩
        · rintro i x σ H6 hx
          cases hx
        · rintro σ H6 ⟨rfl, y4, y5, y6, rfl⟩
          refine ⟨_, rfl, f, [], [], rfl, sqL_new hf5, .nil, (fun d hd => nomatch hd), (.inr fun d hd => nomatch hd), (fun d hd => nomatch hd), fun zs p hzs hp => ?_⟩
          obtain rfl := perm_nil_lots hzs
          exact q _ p (s05.trans (same_upd hp)) (.inl ⟨hz, upd_same⟩)
      · obtain ⟨hm1, hl1⟩ := Ow.lots_one oB hm h1 h5 hz
        obtain ⟨U, eU⟩ : ∃ U, U = Ow.union (Ow.heavyOf B) := ⟨_, rfl⟩
        rw [hm1, ← eU] at hmk
        rw [← eU] at hl1
        unfold Ow.lotOf at hl1
        have g1 : (Ow.spots U).length = 8 := congrArg (fun z => z.1) hl1
        have g2 : ((Ow.heavyOf B).filter fun w => decide (w &&& U ≠ 0)).length = 4 := congrArg (fun z => z.2.1) hl1
        refine ⟨mk, rfl, ⟨_, sqL_new hmk⟩, for_list (K := K) (a := mk) (xs := [vN U]) (fun i σ H' => (∃ y4 y5 y6, σ = [some (.ref a), some (.ref D), some (.ref pb), some (.ref f), y4, y5, y6, none]) ∧ ((i = 0 ∧ H' = H5) ∨ (i = 1 ∧ Same H4 H' ∧ H' mk = some (.lst [vN U]) ∧ ∃ t s, H' f = some (.lst [.ref t]) ∧ H' t = some (.tup [.str "e8", .ref s]) ∧ H' s = some (.lst (vL (Ow.spots U)))))) ⟨⟨none, none, none, rfl⟩, .inl ⟨rfl, rfl⟩⟩ (fun i σ H' _ h => ?_) ?_ ?_⟩
        · rcases h.2 with ⟨_, e⟩ | ⟨_, _, e, _⟩
          · rw [e]; exact sqL_new hmk
          · exact sqL_new e
        · rintro i x σ H6 hx ⟨⟨y4, y5, y6, rfl⟩, hh⟩
          have hi : i < 1 := (List.getElem?_eq_some_iff.mp hx).1
          obtain ⟨rfl, rfl⟩ : i = 0 ∧ H6 = H5 := by
            rcases hh with h | ⟨h, _⟩
            · exact h
            · omega
          obtain rfl : x = vN U := (Option.some.inj hx).symm
          refine ⟨_, rfl, U, rfl, fun H7 s ns s7 hs => ?_⟩
          have hf7 := s7 _ _ hf5
          have nsf : s ≠ f := fun e => by rw [e, hf5] at ns; cases ns
          have hpb7 : SqT K H7 pb (vL (Ow.heavyOf B)) := (s45.trans s7).tup hpb
          refine ⟨_, rfl, pb, rfl, ⟨_, hpb7⟩, fun E hE => lcGT (fun w => !decide (w &&& U = 0)) (fun b y _ => y = vN b) hE hpb7 (small (by omega)) pure_stays ?_ ?_⟩
          · intro b H8 Qn Qs hb s _ k1 k2
            refine ⟨rfl, _, rfl, _, rfl, _, _, rfl, rfl, _, 0, rfl, rfl, _, rfl, ite2 (fun e => ?_) fun e => ?_⟩
            · exact ⟨_, rfl, k1 e _ _ (Same.refl _) rfl⟩
            · exact k2 (Bool.not_eq_true _ ▸ e) _ (Same.refl _)
          · intro H8 zs s8 hz8 pz
            have ez := Paired.length' pz
            have e4 : zs.length = 4 := by
              rw [← ez, ← g2]
              exact congrArg List.length (List.filter_congr fun x _ => by by_cases c : x &&& U = 0 <;> simp [c])
            refine ⟨E, _, rfl, .inl (sqL_new hz8), ?_⟩
            have hf8 := s8 _ _ hf7
            refine ⟨_, rfl, .inl ⟨rfl, _, sqL_new hf8⟩, _, rfl, s, _, rfl, .inl (sqL_new (s8 _ _ hs)), _, rfl, (by rw [vL_length, g1, e4]; rfl), _, rfl, (by decide : 2 ≤ sizeLine), fun t ht => ⟨f, [], _, rfl, rfl, (same_upd ht) _ _ hf8, small (by decide), ?_⟩⟩
            have ntf : t ≠ f := fun e => by rw [e, hf8] at ht; cases ht
            refine ⟨⟨_, _, _, rfl⟩, .inr ⟨rfl, ?_, ?_, t, s, upd_same, ?_, ?_⟩⟩
            · exact same_updF hf (s45.trans (s7.trans (s8.trans (same_upd ht))))
            · rw [upd_ne (fun e => by rw [e, hf5] at hmk; cases hmk)]
              exact (same_upd ht) _ _ (s8 _ _ (s7 _ _ hmk))
            · rw [upd_ne ntf]
              exact upd_same
            · rw [upd_ne nsf]
              exact (same_upd ht) _ _ (s8 _ _ hs)
        · rintro σ H6 ⟨⟨y4, y5, y6, rfl⟩, hh⟩
          rcases hh with ⟨h, _⟩ | ⟨_, s6, _, t, s, k1, k2, k3⟩
          · cases h
          · refine ⟨_, rfl, f, [.ref t], [.tuple [.str "e8", listD (Ow.spots U)]], rfl, sqL_new k1, .cons (.tup (sqT_new k2) (.cons (.str _) (.cons (dp_list k3) .nil))) .nil, ?_, ?_, ?_, fun zs p hzs hp => ?_⟩
            · intro d hd d' hd'
              rw [List.mem_singleton.mp hd, List.mem_singleton.mp hd']
              simp only [PySem.W.alike, PySem.W.alikeAll, listD_alike]
              rfl
            · exact .inl fun d hd => ⟨_, _, List.mem_singleton.mp hd⟩
            · intro d hd
              rw [List.mem_singleton.mp hd]
              have := listD_depth (Ow.spots U)
              simp only [PyData.depth, PyData.depthAll, listD, depth_ints] at this ⊢
              decide
            · obtain rfl := List.perm_singleton.mp hzs
              refine q _ p ?_ (.inr ⟨hz, t, s, upd_same, (same_upd hp) _ _ k2, ?_⟩)
              · exact (s1.trans (s2.trans (s3.trans (s4.trans s6)))).trans (same_upd hp)
              · rw [← eU]
                exact (same_upd hp) _ _ k3
abbrev N_pairs : List Str := ["room"]
theorem sc_pairs : FnScope N_pairs ["room"] (defScope s_pairs) := ⟨rfl, rfl, rfl, by decide +kernel, rfl, by decide +kernel, by decide +kernel⟩
theorem cal_pairs (T : Tx K mg) : Cal P w K mg base 6 "pairs" (fun vs H Q E => ∃ (a : Addr) (n : Nat) (B : List Nat), vs = [.ref a] ∧ RoomAt K H a n B ∧ Ow.Own n B ∧ n ≤ 24 ∧ ∀ (H' : Hp) (p : Addr), Same H H' → H' p = some (.lst (vL (Ow.pairsOf B))) → Q (.ref p) H') := by
  refine calD (ps := ["room"]) T.f_pairs (fun _ _ _ _ _ _ us hl => match us, hl with | [_], _ => rfl) sc_pairs (fun vs H Q E h => ?_) (fun cdv A outer s H vs Q E hr h => ?_)
  · obtain ⟨a, n, B, rfl, _⟩ := h
    rfl
  · obtain ⟨a, n, B, rfl, hA, oB, hn, q⟩ := h
    have hBl := oB.half
    have h24 : ∀ b ∈ B, b < 2 ^ 24 := fun b hb => Nat.lt_of_lt_of_le (oB.lt b hb) (Nat.pow_le_pow_right (by decide) hn)
    refine ⟨_, (pss_cons (ps_expr (pe_c (cal_want_still T) hr (by decide) (by rfl) (pa_cons (pv 0) pa_nil)))
      (pss_one (ps_ret (pe_c (cal_pairs_of T) hr (by decide) (by rfl) (pa_cons (pv 0) pa_nil))))), ?_⟩
    refine ⟨_, rfl, a, n, B, rfl, hA, oB.still, h24, by omega, fun H1 s1 => ?_⟩
    exact ⟨_, rfl, a, n, B, rfl, hA.same s1, by omega, h24, fun H2 p s2 hp => q H2 p (s1.trans s2) hp⟩
abbrev N_fours_kinds : List Str := ["room"]
theorem sc_fours_kinds : FnScope N_fours_kinds ["room"] (defScope s_fours_kinds) := ⟨rfl, rfl, rfl, by decide +kernel, rfl, by decide +kernel, by decide +kernel⟩
theorem cal_fours_kinds (T : Tx K mg) : Cal P w K mg base 7 "fours_kinds" (sp_lots_of K) := by
  refine calD (ps := ["room"]) T.f_fours_kinds (fun _ _ _ _ _ _ us hl => match us, hl with | [_], _ => rfl) sc_fours_kinds (fun vs H Q E h => ?_) (fun cdv A outer s H vs Q E hr h => ?_)
  · obtain ⟨a, n, m, B, rfl, _⟩ := h
    rfl
  · obtain ⟨a, n, m, B, rfl, hA, oB, hm, h1, h5, q⟩ := h
    have hBl := oB.half
    have hn : n ≤ 24 := by omega
    have h24 : ∀ b ∈ B, b < 2 ^ 24 := fun b hb => Nat.lt_of_lt_of_le (oB.lt b hb) (Nat.pow_le_pow_right (by decide) hn)
    refine ⟨_, (pss_cons (ps_expr (pe_c (cal_want_still T) hr (by decide) (by rfl) (pa_cons (pv 0) pa_nil)))
      (pss_one (ps_ret (pe_c (cal_lots_of T) hr (by decide) (by rfl) (pa_cons (pv 0) pa_nil))))), ?_⟩
    refine ⟨_, rfl, a, n, B, rfl, hA, oB.still, h24, by omega, fun H1 s1 => ?_⟩
    exact ⟨_, rfl, a, n, m, B, rfl, hA.same s1, oB, hm, h1, h5, fun H2 p s2 hp => q H2 p (s1.trans s2) hp⟩
end
end Oc
set_option Elab.async false
set_option linter.all false
set_option maxRecDepth 100000
set_option maxHeartbeats 4000000
namespace Ow
theorem wt_half {w : Nat} (h : w < 2 ^ 24) : wt w = w % 2 + wt (w / 2) := by
  have e0 : (w / 2).testBit 23 = false := Nat.testBit_lt_two_pow (by omega)
  have b0 : w % 2 = if w.testBit 0 then 1 else 0 := by
    rw [Nat.testBit_zero]
    rcases Nat.mod_two_eq_zero_or_one w with z | z <;> rw [z] <;> rfl
  have e1 : ∀ i, (w / 2).testBit i = w.testBit (i + 1) := fun i => by rw [Nat.testBit_add_one]
  rw [wt_sum w, wt_sum (w / 2), b0, e0]
  simp only [e1, Nat.reduceAdd]
  simp only [Nat.zero_add, Bool.false_eq_true, if_false]
  omega
end Ow
namespace Oc
open PySem PySem.Spec PyProof.Rows L2
section
variable {X : Cx}
theorem op_mdN : OpR X (binaryOp .Mod) (rNC (fun _ j => 0 < j) fun i j => vN (i % j)) := opCN op_mod (fun i j h => by omega) fun i j _ => congrArg V.int (by push_cast; rfl)
theorem op_fdN : OpR X (binaryOp .FloorDiv) (rNC (fun _ j => 0 < j ∧ j < 1073741824) fun i j => vN (i / j)) := opCN op_fdiv (fun i j h => ⟨by omega, by omega⟩) fun i j _ => congrArg V.int (by push_cast; rfl)
end
/-- the law's pot of numbers -/
def PotAt (H : Hp) (p : Addr) : Prop := ∃ x y : Int, H p = some (.lst [.int x, .int y]) ∧ 0 ≤ x ∧ 0 ≤ y ∧ y < 4294967296
theorem But.trans {p : Addr} {H1 H2 H3 : Hp} (h : But p H1 H2) (h2 : But p H2 H3) : But p H1 H3 := fun c o e ne => h2 c o (h c o e ne) ne
theorem RoomAt.but {K : PySem.W.Frag} {H H' : Hp} {p q : Addr} {n : Nat} {B : List Nat} (hp : PotAt H p) (h : RoomAt K H q n B) (b : But p H H') : RoomAt K H' q n B := by
  obtain ⟨x, y, hx, _⟩ := hp
  obtain ⟨dx, bb, h1, h2⟩ := h
  exact ⟨dx, bb, b _ _ h1 (fun e => by rw [e, hx] at h1; cases h1), tup_but hx (fun _ e => by cases e) (fun _ _ e => by cases e) h2 b⟩
theorem PotAt.same {H H' : Hp} {p : Addr} (h : PotAt H p) (s : Same H H') : PotAt H' p := by
  obtain ⟨x, y, h1, h2⟩ := h
  exact ⟨x, y, s _ _ h1, h2⟩
section
variable {P : Program} {w : World} {K : PySem.W.Frag} {mg : Str → Option Value} {base : Heap}
abbrev N_l_pot : List Str := ["_law_script", "_law_k", "_law_cell"]
theorem sc_l_pot : FnScope N_l_pot ["_law_script", "_law_k"] (defScope s_l_pot) := ⟨rfl, rfl, rfl, by decide +kernel, rfl, by decide +kernel, by decide +kernel⟩
def sp_l_pot (K : PySem.W.Frag) : Sp := fun vs H Q _ => ∃ (s : Addr) (ns : List Int), vs = [.ref s, .int 0] ∧ SqL K H s (ns.map V.int) ∧ ∀ (H' : Hp) (p : Addr), Same H H' → PotAt H' p → Q (.ref p) H'
theorem pot_ok {H : Hp} {p : Addr} {c z : Int} (hp : H p = some (.lst [.int (if (c - 10 ^ (18 : Int).toNat) > 0 then (c - 10 ^ (18 : Int).toNat) else 0), .int (z % 2147483563 + 1)])) : PotAt H p := by
  refine ⟨_, _, hp, ?_, ?_, ?_⟩
  · split <;> omega
  · omega
  · omega
theorem cal_l_pot (T : Tx K mg) : Cal P w K mg base 1 "_law_pot" (sp_l_pot K) := by
  refine calD (ps := ["_law_script", "_law_k"]) T.f_l_pot (fun _ _ _ _ _ _ us hl => match us, hl with | [_, _], _ => rfl) sc_l_pot (fun vs H Q E h => ?_) (fun cdv A outer s H vs Q E hr h => ?_)
  · obtain ⟨s, ns, rfl, _⟩ := h
    rfl
  · obtain ⟨sa, ns, rfl, hS, q⟩ := h
    refine ⟨_, (pss_cons (ps_set (i := 2) sc_l_pot.nd rfl (.inl rfl) (pe_op op_add (pe_op op_mul pe_int (pv 1)) pe_int))
      (pss_cons (ps_if (pt_cmpR op_lt (pv 1) (pe_callB call_len_seq (by rfl) T.b_len bt_len (pa_cons (pv 0) pa_nil)) (nomark _))
        (pss_one (ps_set (i := 2) sc_l_pot.nd rfl (.inl rfl) (pe_callB call_abs (by rfl) T.b_abs bt_abs (pa_cons (pe_ix ix_list (pv 0) (pv 1) (fun _ _ => rfl)) pa_nil))))
        pss_nil)
      (pss_one (ps_ret (pe_lst (pa_cons (pe_callB (call_max2 rfl) (by rfl) T.b_max bt_max (pa_cons pe_int (pa_cons (pe_op op_sub (pv 2) (pe_op op_pow pe_int pe_int)) pa_nil))) (pa_cons (pe_op op_add (pe_op op_mod (pe_callTy call_int1 (by rfl) T.b_int bt_int (pa_cons (pe_op op_add (pe_op op_add (pe_op op_mul (pe_op op_mod (pe_callTy call_int1 (by rfl) T.b_int bt_int (pa_cons (pv 2) pa_nil)) pe_int) pe_int) (pe_op op_mul pe_int (pv 1))) pe_int) pa_nil)) pe_int) pe_int) pa_nil))))))), ?_⟩
    refine ⟨_, rfl, _, _, rfl, rfl, .inl ⟨by decide, by decide⟩, _, _, rfl, rfl, ?_⟩
    refine ⟨_, rfl, _, rfl, sa, _, rfl, .inl hS, _, _, rfl, rfl, _, rfl, ite2 (fun e => ?_) fun e => ?_⟩
    · have hl : (0 : Int) < ((ns.map V.int).length : Int) := of_decide_eq_true e
      obtain ⟨i0, e0⟩ : ∃ i0, atI (ns.map V.int) 0 = some (V.int i0) := by
        cases ns with
        | nil => cases hl
        | cons i l => exact ⟨i, atI_zero _ _⟩
      refine ⟨_, rfl, _, rfl, sa, _, _, _, rfl, rfl, hS, e0, i0, rfl, ?_⟩
      refine ⟨_, rfl, _, _, rfl, rfl, ⟨by decide, by decide, by decide⟩, _, _, rfl, rfl, _, _, rfl, ?_⟩
      refine ⟨_, rfl, .inl ⟨_, rfl, _, _, rfl, rfl, (by decide : (0 : Int) < 2147483549), _, _, rfl, rfl, .inr ⟨by decide, by decide⟩, _, rfl, _, _, rfl, rfl, .inl ⟨by decide, by decide⟩, _, _, rfl, rfl, _, _, rfl, rfl, .inl ⟨_, rfl, _, _, rfl, rfl, (by decide : (0 : Int) < 2147483563), _, _, rfl, rfl, (by decide : 2 ≤ sizeLine), fun p hp => ?_⟩⟩⟩
      exact q _ p (same_upd hp) (pot_ok upd_same)
    · refine ⟨_, rfl, _, _, rfl, rfl, ⟨by decide, by decide, by decide⟩, _, _, rfl, rfl, _, _, rfl, ?_⟩
      refine ⟨_, rfl, .inl ⟨_, rfl, _, _, rfl, rfl, (by decide : (0 : Int) < 2147483549), _, _, rfl, rfl, .inr ⟨by decide, by decide⟩, _, rfl, _, _, rfl, rfl, .inl ⟨by decide, by decide⟩, _, _, rfl, rfl, _, _, rfl, rfl, .inl ⟨_, rfl, _, _, rfl, rfl, (by decide : (0 : Int) < 2147483563), _, _, rfl, rfl, (by decide : 2 ≤ sizeLine), fun p hp => ?_⟩⟩⟩
      exact q _ p (same_upd hp) (pot_ok upd_same)
abbrev N_l_draw : List Str := ["_law_pot_here", "_law_size", "_law_digit"]
theorem sc_l_draw : FnScope N_l_draw ["_law_pot_here", "_law_size"] (defScope s_l_draw) := ⟨rfl, rfl, rfl, by decide +kernel, rfl, by decide +kernel, by decide +kernel⟩
def sp_l_draw : Sp := fun vs H Q _ => ∃ (p : Addr) (sz : Nat), vs = [.ref p, vN sz] ∧ PotAt H p ∧ 0 < sz ∧ sz < 1073741824 ∧ ∀ (H' : Hp) (d : Nat), But p H H' → PotAt H' p → d < sz → Q (vN d) H'
theorem mod_nat {x : Int} {sz : Nat} (h : 0 < sz) : ∃ d : Nat, x % (sz : Int) = (d : Int) ∧ d < sz := by
  have h1 := Int.emod_nonneg x (b := (sz : Int)) (by omega)
  have h2 := Int.emod_lt_of_pos x (b := (sz : Int)) (by omega)
  exact ⟨(x % (sz : Int)).toNat, by omega, by omega⟩
theorem cal_l_draw (T : Tx K mg) : Cal P w K mg base 1 "_law_draw" sp_l_draw := by
  refine calD (ps := ["_law_pot_here", "_law_size"]) T.f_l_draw (fun _ _ _ _ _ _ us hl => match us, hl with | [_, _], _ => rfl) sc_l_draw (fun vs H Q E h => ?_) (fun cdv A outer s H vs Q E hr h => ?_)
  · obtain ⟨s, ns, rfl, _⟩ := h
    rfl
  · obtain ⟨p, sz, rfl, ⟨x, y, hp, hx, hy, hy2⟩, h0, hlt, q⟩ := h
    have at0 : ∀ (u v : V), atI [u, v] 0 = some u := fun u v => rfl
    have at1 : ∀ (u v : V), atI [u, v] 1 = some v := fun u v => rfl
    refine ⟨_, (pss_cons (ps_if (pt_cmpR op_gt (pe_ix ix_list (pv 0) pe_int (fun _ _ => rfl)) pe_int (nomark _))
        (pss_cons (ps_asg (pe_callB call_divmod (by rfl) T.b_divmod bt_divmod (pa_cons (pe_ix ix_list (pv 0) pe_int (fun _ _ => rfl)) (pa_cons (pv 1) pa_nil))) (pg_tup (by rfl) (pgs_cons (pg_sub (pv 0) pe_int set_list) (pgs_cons (pg_name (i := 2) sc_l_draw.nd rfl (.inl rfl)) pgs_nil))))
        (pss_one (ps_ret (pv 2))))
        pss_nil)
      (pss_cons (ps_asg (pe_op op_mod (pe_callTy call_int1 (by rfl) T.b_int bt_int (pa_cons (pe_op op_add (pe_op op_mul (pe_ix ix_list (pv 0) pe_int (fun _ _ => rfl)) pe_int) pe_int) pa_nil)) pe_int) (pg_sub (pv 0) pe_int set_list))
      (pss_one (ps_ret (pe_op op_mod (pe_callTy call_int1 (by rfl) T.b_int bt_int (pa_cons (pe_op op_fdiv (pe_op op_mod (pe_callTy call_int1 (by rfl) T.b_int bt_int (pa_cons (pe_op op_mul (pe_ix ix_list (pv 0) pe_int (fun _ _ => rfl)) (pe_ix ix_list (pv 0) pe_int (fun _ _ => rfl))) pa_nil)) pe_int) pe_int) pa_nil)) (pv 1)))))), ?_⟩
    refine ⟨_, rfl, p, _, _, _, rfl, rfl, sqL_new hp, at0 _ _, _, _, rfl, rfl, _, rfl, ite2 (fun e => ?_) fun e => ?_⟩
    · refine ⟨_, rfl, p, _, _, _, rfl, rfl, sqL_new hp, at0 _ _, _, rfl, _, _, rfl, ⟨by omega, by omega⟩, fun t ht => ?_⟩
      have ntp : t ≠ p := fun e => by rw [e, hp] at ht; cases ht
      have hp2 := (same_upd (o := .tup [.int (x / (sz : Int)), .int (x % (sz : Int))]) ht) _ _ hp
      refine ⟨t, _, rfl, sqT_new upd_same, rfl, _, _, rfl, _, rfl, p, _, 0, 0, rfl, rfl, hp2, rfl, _, _, rfl, rfl, ?_⟩
      obtain ⟨d, ed, hd⟩ := mod_nat (x := x) h0
      refine ⟨_, rfl, val_eq (congrArg V.int ed) (q _ d (fun c o hc ne => ?_) ⟨x / (sz : Int), y, upd_same, Int.ediv_nonneg hx (by omega), hy, hy2⟩ hd)⟩
      rw [upd_ne ne]
      exact (same_upd ht) _ _ hc
    · refine ⟨_, rfl, p, _, _, _, rfl, rfl, sqL_new hp, at1 _ _, _, _, rfl, rfl, .inr ⟨by decide, by decide⟩, _, _, rfl, rfl, .inl ⟨_, rfl, _, _, rfl, rfl, (by decide : (0 : Int) < 2147483587), _, rfl, p, _, 1, 1, rfl, rfl, hp, rfl, ?_⟩⟩
      have hp2 : (upd H p (.lst ([V.int x, V.int y].set 1 (.int ((y * 39373 + 3623) % 2147483587))))) p = some (.lst [V.int x, .int ((y * 39373 + 3623) % 2147483587)]) := upd_same
      have hb : 0 ≤ (y * 39373 + 3623) % 2147483587 ∧ (y * 39373 + 3623) % 2147483587 < 2147483587 := ⟨Int.emod_nonneg _ (by decide), Int.emod_lt_of_pos _ (by decide)⟩
      refine ⟨_, rfl, p, _, _, _, rfl, rfl, sqL_new hp2, at1 _ _, _, rfl, p, _, _, _, rfl, rfl, sqL_new hp2, at1 _ _, _, _, rfl, rfl, .inl ⟨by omega, by omega⟩, .inl ⟨_, rfl, _, _, rfl, rfl, (by decide : (0 : Int) < 2147483563), _, _, rfl, rfl, ⟨by decide, by decide⟩, .inl ⟨_, rfl, _, rfl, _, _, rfl, rfl, (by omega : (0 : Int) < (sz : Int)), ?_⟩⟩⟩
      obtain ⟨d, ed, hd⟩ := mod_nat (x := (((y * 39373 + 3623) % 2147483587) * ((y * 39373 + 3623) % 2147483587)) % 2147483563 / 17) h0
      refine val_eq (congrArg V.int ed) (q _ d (fun c o hc ne => ?_) ⟨x, _, hp2, hx, hb.1, by omega⟩ hd)
      rw [upd_ne ne]
      exact hc
end
end Oc
set_option Elab.async false
set_option linter.all false
set_option maxRecDepth 100000
set_option maxHeartbeats 4000000
namespace Oc
open PySem PySem.Spec PyProof.Rows L2
theorem erase_map (L : List Nat) (d : Nat) : (vL L).eraseIdx d = vL (L.eraseIdx d) := by
  rw [List.eraseIdx_eq_take_drop_succ, List.eraseIdx_eq_take_drop_succ, vL_append, vL, vL, vL, List.map_take, List.map_drop]
theorem erase_perm {L : List Nat} {d : Nat} (h : d < L.length) : ([L[d]] ++ L.eraseIdx d).Perm L := by
  have e : L = L.take d ++ L[d] :: L.drop (d + 1) := by rw [← List.drop_eq_getElem_cons h, List.take_append_drop]
  rw [List.eraseIdx_eq_take_drop_succ]
  conv => rhs; rw [e]
  rw [List.singleton_append]
  exact List.perm_middle.symm
section
variable {P : Program} {w : World} {K : PySem.W.Frag} {mg : Str → Option Value} {base : Heap}
abbrev N_l_pick : List Str := ["_law_pot_here", "_law_some"]
theorem sc_l_pick : FnScope N_l_pick ["_law_pot_here", "_law_some"] (defScope s_l_pick) := ⟨rfl, rfl, rfl, by decide +kernel, rfl, by decide +kernel, by decide +kernel⟩
def sp_l_pick (K : PySem.W.Frag) : Sp := fun vs H Q _ => ∃ (p s : Addr) (xs : List Nat), vs = [.ref p, .ref s] ∧ PotAt H p ∧ H s = some (.lst (vL xs)) ∧ s ≠ p ∧ 0 < xs.length ∧ xs.length < 1000 ∧ ∀ (H' : Hp) (v : Nat), But p H H' → PotAt H' p → v ∈ xs → Q (vN v) H'
theorem cal_l_pick (T : Tx K mg) : Cal P w K mg base 2 "_law_pick" (sp_l_pick K) := by
  refine calD (ps := ["_law_pot_here", "_law_some"]) T.f_l_pick (fun _ _ _ _ _ _ us hl => match us, hl with | [_, _], _ => rfl) sc_l_pick (fun vs H Q E h => ?_) (fun cdv A outer s H vs Q E hr h => ?_)
  · obtain ⟨p, s, xs, rfl, _⟩ := h
    rfl
  · obtain ⟨p, sa, xs, rfl, hp, hs, ne, h0, hl, q⟩ := h
    refine ⟨_, (pss_one (ps_ret (pe_ix ix_list (pv 1) (pe_c (cal_l_draw T) hr (by decide) (by rfl) (pa_cons (pv 0) (pa_cons (pe_callB call_len_seq (by rfl) T.b_len bt_len (pa_cons (pv 1) pa_nil)) pa_nil))) (fun _ _ => rfl)))), ?_⟩
    refine ⟨_, rfl, _, rfl, _, rfl, sa, _, rfl, .inl (sqL_new hs), p, xs.length, (by rw [vL_length]; rfl), hp, h0, by omega, fun H1 d b1 hp1 hd => ?_⟩
    exact ⟨sa, _, _, _, rfl, rfl, sqL_new (b1 _ _ hs ne), atI_at hd, q H1 _ b1 hp1 (by rw [List.getD_eq_getElem?_getD, List.getElem?_eq_getElem hd]; exact List.getElem_mem hd)⟩
abbrev N_l_weight : List Str := ["_law_word_here", "_law_found", "_law_left"]
theorem sc_l_weight : FnScope N_l_weight ["_law_word_here"] (defScope s_l_weight) := ⟨rfl, rfl, rfl, by decide +kernel, rfl, by decide +kernel, by decide +kernel⟩
def sp_l_weight : Sp := fun vs H Q _ => ∃ (x : Nat), vs = [vN x] ∧ x < 2 ^ 24 ∧ Q (vN (Ow.wt x)) H
theorem cal_l_weight (T : Tx K mg) : Cal P w K mg base 1 "_law_weight" sp_l_weight := by
  refine calD (ps := ["_law_word_here"]) T.f_l_weight (fun _ _ _ _ _ _ us hl => match us, hl with | [_], _ => rfl) sc_l_weight (fun vs H Q E h => ?_) (fun cdv A outer s H vs Q E hr h => ?_)
  · obtain ⟨x, rfl, _⟩ := h
    rfl
  · obtain ⟨x, rfl, hx, q⟩ := h
    refine ⟨_, (pss_cons (ps_par (i := 1) (j := 2) (by rfl) sc_l_weight.nd rfl rfl (by decide) rfl rfl (pa_cons pe_int (pa_cons (pv 0) pa_nil)) (by rfl))
      (pss_cons (ps_while PassesOwn.never (pt_cmpR op_gtN (pv 2) pe_int (nomark _))
        (pss_one (ps_par (i := 1) (j := 2) (by rfl) sc_l_weight.nd rfl rfl (by decide) rfl rfl (pa_cons (pe_op op_addN (pv 1) (pe_op op_mdN (pe_callTy call_int1 (by rfl) T.b_int bt_int (pa_cons (pv 2) pa_nil)) pe_int)) (pa_cons (pe_op op_fdN (pe_callTy call_int1 (by rfl) T.b_int bt_int (pa_cons (pv 2) pa_nil)) pe_int) pa_nil)) (by rfl))))
      (pss_one (ps_ret (pv 1))))), ?_⟩
    refine ⟨_, rfl, _, _, rfl, ?_⟩
    refine ⟨fun m σ H' => H' = H ∧ ∃ f l : Nat, σ = [some (vN x), some (vN f), some (vN l)] ∧ l < 2 ^ 24 ∧ f + Ow.wt l = Ow.wt x ∧ m = l, ⟨x, rfl, 0, x, rfl, hx, by omega, rfl⟩, ?_⟩
    rintro m σ H' ⟨rfl, f, l, rfl, hl, ef, rfl⟩
    refine ⟨_, rfl, _, 0, rfl, rfl, _, rfl, ite2 (fun e => ?_) fun e => ?_⟩
    · have h0 : 0 < m := of_decide_eq_true e
      refine ⟨fun σ' H'' => H'' = H' ∧ ∃ f l : Nat, σ' = [some (vN x), some (vN f), some (vN l)] ∧ l < 2 ^ 24 ∧ f + Ow.wt l = Ow.wt x ∧ l = m / 2, fun σ' H'' ⟨e1, f', l', e2, e3, e4, e5⟩ => ⟨m / 2, Nat.div_lt_self h0 (by decide), e1, f', l', e2, e3, e4, e5.symm⟩, ?_⟩
      refine ⟨_, rfl, _, rfl, .inl ⟨_, rfl, _, 2, rfl, rfl, (by decide : 0 < 2), _, _, rfl, rfl, _, rfl, .inl ⟨_, rfl, _, 2, rfl, rfl, ⟨by decide, by decide⟩, _, _, rfl, ?_⟩⟩⟩
      refine ⟨rfl, _, _, rfl, by omega, ?_, rfl⟩
      have := Ow.wt_half hl
      omega
    · have h0 : m = 0 := by
        have : ¬ 0 < m := fun z => e (decide_eq_true z)
        omega
      subst h0
      refine ⟨_, rfl, ?_⟩
      rw [Ow.wt_zero, Nat.add_zero] at ef
      rw [ef]
      exact q
abbrev N_l_word : List Str := ["_law_spots", "_law_spot"]
theorem sc_l_word : FnScope N_l_word ["_law_spots"] (defScope s_l_word) := ⟨rfl, rfl, rfl, by decide +kernel, rfl, by decide +kernel, by decide +kernel⟩
def sp_l_word (K : PySem.W.Frag) : Sp := fun vs H Q _ => ∃ (s : Addr) (ps : List Nat), vs = [.ref s] ∧ SqL K H s (vL ps) ∧ ps.length ≤ 100 ∧ (∀ p ∈ ps, p ≤ 1000) ∧ ∀ H', Same H H' → Q (vN (Ow.wordOf ps)) H'
theorem cal_l_word (T : Tx K mg) : Cal P w K mg base 1 "_law_word" (sp_l_word K) := by
  refine calD (ps := ["_law_spots"]) T.f_l_word (fun _ _ _ _ _ _ us hl => match us, hl with | [_], _ => rfl) sc_l_word (fun vs H Q E h => ?_) (fun cdv A outer s H vs Q E hr h => ?_)
  · obtain ⟨s, ps, rfl, _⟩ := h
    rfl
  · obtain ⟨sa, ps, rfl, hs, hl, hb, q⟩ := h
    refine ⟨_, (pss_one (ps_ret (pe_callB (cr_sumN rfl) (by rfl) T.b_sum bt_sum (pa_cons (pe_lc (own := [("_law_spot", 1)]) (by rfl) sc_l_word.nd (pi_list (pv 0)) (blkOk_by (N := N_l_word) (sc := defScope s_l_word) (by decide +kernel)) (fun _ _ _ _ _ => (pg_name (i := 1) sc_l_word.nd rfl (.inl rfl))) (fun _ _ _ _ _ => pts_nil) (fun _ _ _ _ _ => (pe_op op_shlN pe_int (pv 1)))) pa_nil)))), ?_⟩
    refine ⟨_, rfl, sa, rfl, ⟨_, hs⟩, fun D hD => lcGL (fun _ => true) (fun b y _ => y = vN (1 <<< b)) hD hs (small (by omega)) pure_stays ?_ ?_⟩
    · intro b H2 Qn Qs hm s _ k1 k2
      refine ⟨rfl, _, rfl, 1, _, rfl, rfl, ⟨by decide, hb b hm⟩, ?_⟩
      exact k1 rfl _ _ (Same.refl _) rfl
    · intro H2 ys s1 hy pr
      have ey := Paired.eq_map pr
      rw [List.filter_eq_self.mpr fun _ _ => rfl] at ey
      subst ey
      refine ⟨D, ps.map fun b => 1 <<< b, rfl, sqL_new (by rw [hy, vL_map]), ?_⟩
      refine val_eq (congrArg (fun z : Nat => vN z) ?_) (q H2 s1)
      unfold Ow.wordOf
      simp only [Nat.one_shiftLeft]
abbrev N_l_led : List Str := ["_law_word_here", "_law_sequence_here", "_law_at"]
theorem sc_l_led : FnScope N_l_led ["_law_word_here", "_law_sequence_here"] (defScope s_l_led) := ⟨rfl, rfl, rfl, by decide +kernel, rfl, by decide +kernel, by decide +kernel⟩
def sp_l_led (K : PySem.W.Frag) : Sp := fun vs H Q _ => ∃ (s : Addr) (x : Nat) (σ : List Nat), vs = [vN x, .ref s] ∧ SqL K H s (vL σ) ∧ σ.length ≤ 24 ∧ (∀ p ∈ σ, p ≤ 1000) ∧ ∀ H', Same H H' → Q (vN (Ow.led σ x)) H'
theorem cal_l_led (T : Tx K mg) : Cal P w K mg base 2 "_law_led" (sp_l_led K) := by
  refine calD (ps := ["_law_word_here", "_law_sequence_here"]) T.f_l_led (fun _ _ _ _ _ _ us hl => match us, hl with | [_, _], _ => rfl) sc_l_led (fun vs H Q E h => ?_) (fun cdv A outer s H vs Q E hr h => ?_)
  · obtain ⟨s, x, σ, rfl, _⟩ := h
    rfl
  · obtain ⟨sa, x, τ, rfl, hs, hl, hb, q⟩ := h
    refine ⟨_, (pss_one (ps_ret (pe_c (cal_l_word T) hr (by decide) (by rfl) (pa_cons (pe_lc (own := [("_law_at", 2)]) (by rfl) sc_l_led.nd (pi_range1 rfl T.b_range (pa_cons (pe_callB call_len_seq (by rfl) T.b_len bt_len (pa_cons (pv 1) pa_nil)) pa_nil)) (blkOk_by (N := N_l_led) (sc := defScope s_l_led) (by decide +kernel)) (fun _ _ _ _ _ => (pg_name (i := 2) sc_l_led.nd rfl (.inl rfl))) (fun _ _ _ _ _ => (pts_one (pt_cmpR op_eqN (pe_op op_mdN (pe_callTy call_int1 (by rfl) T.b_int bt_int (pa_cons (pe_op op_shrN (pv 0) (pv 2)) pa_nil)) pe_int) pe_int (nomark _)))) (fun _ _ _ _ _ => (pe_ix (r := rIxL K) ix_list (pv 1) (pv 2) (fun _ _ => rfl)))) pa_nil)))), ?_⟩
    have hl2 : (vL τ).length ≤ 24 := by rw [vL_length]; exact hl
    refine ⟨_, rfl, sa, _, rfl, .inl hs, _, rfl, by omega, by omega, ?_⟩
    rw [Int.toNat_natCast, vL_length]
    refine fun D hD => lcGR (fun b => x.testBit b) (fun b y _ => y = vN (τ.getD b 0)) hD (small (by omega)) pure_stays ?_ ?_
    · intro b H2 Qn Qs hm s _ k1 k2
      have hb2 : b < τ.length := List.mem_range.mp hm
      refine ⟨rfl, _, rfl, _, rfl, _, _, rfl, rfl, .inl ⟨_, rfl, _, 2, rfl, rfl, (by decide : 0 < 2), _, 1, rfl, rfl, _, rfl, ite2 (fun e => ?_) fun e => ?_⟩⟩
      · exact ⟨_, rfl, _, rfl, sa, _, _, _, rfl, rfl, s.seq hs, atI_at hb2, k1 ((bit_two x b).mp (of_decide_eq_true e)) _ _ (Same.refl _) rfl⟩
      · exact k2 (Bool.not_eq_true _ ▸ fun z => e (decide_eq_true ((bit_two x b).mpr z))) _ (Same.refl _)
    · intro H2 ys s1 hy pr
      have ey := Paired.eq_map pr
      subst ey
      refine ⟨D, Ow.ledSpots τ x, rfl, sqL_new (by rw [hy, Ow.ledSpots, vL_map]), ?_, fun p hp => ?_, fun H3 s3 => q H3 (s1.trans s3)⟩
      · unfold Ow.ledSpots
        rw [List.length_map]
        exact Nat.le_trans (List.length_filter_le _ _) (by rw [List.length_range]; omega)
      · unfold Ow.ledSpots at hp
        obtain ⟨i, hi, rfl⟩ := List.mem_map.mp hp
        have hi2 := List.mem_range.mp (List.mem_filter.mp hi).1
        rw [List.getD_eq_getElem?_getD, List.getElem?_eq_getElem hi2]
        exact hb _ (List.getElem_mem hi2)
abbrev N_l_sequence : List Str := ["_law_pot_here", "_law_places", "_law_left", "_law_found", "_law_turn"]
theorem sc_l_sequence : FnScope N_l_sequence ["_law_pot_here", "_law_places"] (defScope s_l_sequence) := ⟨rfl, rfl, rfl, by decide +kernel, rfl, by decide +kernel, by decide +kernel⟩
def sp_l_sequence : Sp := fun vs H Q _ => ∃ (p : Addr) (n : Nat), vs = [.ref p, vN n] ∧ PotAt H p ∧ n ≤ 24 ∧ ∀ (H' : Hp) (q : Addr) (σ : List Nat), But p H H' → PotAt H' p → q ≠ p → H' q = some (.lst (vL σ)) → Ow.IsSeq n σ → Q (.ref q) H'
theorem cal_l_sequence (T : Tx K mg) : Cal P w K mg base 2 "_law_sequence" sp_l_sequence := by
  refine calD (ps := ["_law_pot_here", "_law_places"]) T.f_l_sequence (fun _ _ _ _ _ _ us hl => match us, hl with | [_, _], _ => rfl) sc_l_sequence (fun vs H Q E h => ?_) (fun cdv A outer s H vs Q E hr h => ?_)
  · obtain ⟨p, n, rfl, _⟩ := h
    rfl
  · obtain ⟨p, n, rfl, hp, hn, q⟩ := h
    refine ⟨_, (pss_cons (ps_par (i := 2) (j := 3) (by rfl) sc_l_sequence.nd rfl rfl (by decide) rfl rfl (pa_cons (pe_listRg (by rfl) (by rfl) T.b_list (prg_1 rfl T.b_range (pv 1))) (pa_cons (pe_lst pa_nil) pa_nil)) (by rfl))
      (pss_cons (ps_for PassesOwn.never rfl (pi_range1 rfl T.b_range (pa_cons (pv 1) pa_nil)) (pg_name (i := 4) sc_l_sequence.nd rfl (.inl rfl))
        (pss_one (ps_expr (pe_bm PySem.F.plainAttrs_list PySem.F.slot_list_append PySem.F.type_list_append mt_append (pv 3) (pa_cons (pe_bm PySem.F.plainAttrs_list PySem.F.slot_list_pop PySem.F.type_list_pop mt_popAt (pv 2) (pa_cons (pe_c (cal_l_draw T) hr (by decide) (by rfl) (pa_cons (pv 0) (pa_cons (pe_callB call_len_seq (by rfl) T.b_len bt_len (pa_cons (pv 2) pa_nil)) pa_nil))) pa_nil)) pa_nil)))))
      (pss_one (ps_ret (pv 3))))), ?_⟩
    refine ⟨_, rfl, _, rfl, RgOk.of_le (by decide) (by omega) (by decide) (by omega), fun la hla => ⟨Nat.zero_le _, fun fa hfa => ⟨_, _, rfl, ?_⟩⟩⟩
    have erg : rgV 0 (n : Int) = vL (List.range n) := by
      unfold rgV
      rw [show ((n : Int) - 0).toNat = n by omega]
      exact List.map_congr_left fun i _ => congrArg V.int (by omega)
    obtain ⟨x0, y0, hpp, _⟩ := id hp
    have nlp : la ≠ p := fun e => by rw [e, hpp] at hla; cases hla
    have nfp : fa ≠ p := fun e => by rw [e, (same_upd hla) _ _ hpp] at hfa; cases hfa
    have nfl : fa ≠ la := fun e => by rw [e, upd_same] at hfa; cases hfa
    have h2 : H fa = none := none_of_same (same_upd hla) hfa
    refine ⟨_, rfl, _, rfl, by omega, by omega, ?_⟩
    rw [Int.toNat_natCast]
    refine for_range (fun i σ H' => (∃ y, σ = [some (.ref p), some (vN n), some (.ref la), some (.ref fa), y]) ∧ But p H H' ∧ PotAt H' p ∧ ∃ L F, H' la = some (.lst (vL L)) ∧ H' fa = some (.lst (vL F)) ∧ (F ++ L).Perm (List.range n) ∧ F.length = i) ?_ ?_ ?_
    · refine ⟨⟨_, rfl⟩, fun c o e _ => (same_upd hfa) _ _ ((same_upd hla) _ _ e), ?_, List.range n, [], ?_, upd_same, .refl _, rfl⟩
      · exact (hp.same (same_upd hla)).same (same_upd hfa)
      · rw [← erg]
        exact (same_upd hfa) _ _ upd_same
    · rintro i σ H1 hi ⟨⟨y, rfl⟩, b1, hp1, L, F, hL, hF, hperm, hFl⟩
      have hLl : L.length = n - i := by
        have := hperm.length_eq
        rw [List.length_append, List.length_range] at this
        omega
      refine ⟨_, rfl, .inl ⟨rfl, _, sqL_new hF⟩, _, rfl, .inl ⟨rfl, _, sqL_new hL⟩, _, rfl, _, rfl, la, _, rfl, .inl (sqL_new hL), p, L.length, (by rw [vL_length]; rfl), hp1, by omega, by omega, fun H2 d b2 hp2 hd => ?_⟩
      have hL2 := b2 _ _ hL nlp
      have hF2 := b2 _ _ hF nfp
      have hd2 : (vL L)[d]? = some (vN L[d]) := by rw [List.getElem?_map, List.getElem?_eq_getElem hd]; rfl
      refine ⟨la, _, _, d, _, rfl, rfl, hL2, by omega, by omega, (ixN_seq (i := (d : Int)) (j := d) (by unfold ixN; rw [if_pos (Int.natCast_nonneg d), if_pos (by rw [vL_length]; omega)]; rfl)).1, hd2, ?_⟩
      have hF3 : (upd H2 la (.lst ((vL L).eraseIdx d))) fa = some (.lst (vL F)) := by rw [upd_ne nfl]; exact hF2
      refine ⟨fa, _, _, rfl, rfl, hF3, small (by rw [vL_length]; omega), ⟨_, rfl⟩, ?_, ?_, L.eraseIdx d, F ++ [L[d]], ?_, ?_, ?_, ?_⟩
      · intro c o e ne
        rw [upd_ne (ne_of_none e h2), upd_ne (ne_of_none e hla)]
        exact b2 _ _ (b1 _ _ e ne) ne
      · obtain ⟨x1, y1, k1, k2⟩ := hp2
        exact ⟨x1, y1, by rw [upd_ne (Ne.symm nfp), upd_ne (Ne.symm nlp)]; exact k1, k2⟩
      · rw [upd_ne (Ne.symm nfl), upd_same]
        exact congrArg (fun z => some (HO.lst z)) (erase_map _ _)
      · rw [upd_same, vL_append]
        rfl
      · refine List.Perm.trans ?_ hperm
        rw [List.append_assoc]
        exact List.Perm.append_left F (erase_perm hd)
      · rw [List.length_append, hFl]
        rfl
    · rintro σ H1 ⟨⟨y, rfl⟩, b1, hp1, L, F, hL, hF, hperm, hFl⟩
      have hLn : L = [] := by
        have := hperm.length_eq
        rw [List.length_append, List.length_range] at this
        exact List.length_eq_zero_iff.mp (by omega)
      rw [hLn, List.append_nil] at hperm
      exact ⟨_, rfl, q H1 fa F b1 hp1 nfp hF hperm⟩
end
end Oc
set_option Elab.async false
set_option linter.all false
set_option maxRecDepth 100000
set_option maxHeartbeats 4000000
namespace Oc
open PySem PySem.Spec PyProof.Rows L2
section
variable {P : Program} {w : World} {K : PySem.W.Frag} {mg : Str → Option Value} {base : Heap}
abbrev N_l_drawn : List Str := ["_law_pot_here", "_law_places", "_law_found", "_law_turn", "_law_word_here", "_law_other"]
theorem sc_l_drawn : FnScope N_l_drawn ["_law_pot_here", "_law_places"] (defScope s_l_drawn) := ⟨rfl, rfl, rfl, by decide +kernel, rfl, by decide +kernel, by decide +kernel⟩
def sp_l_drawn (K : PySem.W.Frag) : Sp := fun vs H Q _ => ∃ (p : Addr) (n : Nat), vs = [.ref p, vN n] ∧ PotAt H p ∧ 1 ≤ n ∧ n ≤ 24 ∧ n % 2 = 0 ∧ ∀ (H' : Hp) (q : Addr) (F : List Nat), But p H H' → PotAt H' p → RoomAt K H' q n F → Ow.Own n F → Q (.ref q) H'
theorem still_snoc {W : List Nat} {x : Nat} (h : Ow.Still W) (hx : ∀ o ∈ W ++ [x], Ow.ev x o) : Ow.Still (W ++ [x]) := fun b hb c hc => by
  rcases List.mem_append.mp hb with hb | hb
  · rcases List.mem_append.mp hc with hc | hc
    · exact h b hb c hc
    · rw [List.mem_singleton.mp hc]
      exact Ow.ev_comm.mp (hx b (List.mem_append_left _ hb))
  · rw [List.mem_singleton.mp hb]
    exact hx c hc
theorem shl_lt {n : Nat} (h : n ≤ 24) : 1 <<< n < 1073741824 := by
  rw [Nat.one_shiftLeft]
  exact Nat.lt_of_le_of_lt (Nat.pow_le_pow_right (by decide) h) (by decide)
theorem cal_l_drawn (T : Tx K mg) : Cal P w K mg base 11 "_law_drawn" (sp_l_drawn K) := by
  refine calD (ps := ["_law_pot_here", "_law_places"]) T.f_l_drawn (fun _ _ _ _ _ _ us hl => match us, hl with | [_, _], _ => rfl) sc_l_drawn (fun vs H Q E h => ?_) (fun cdv A outer s H vs Q E hr h => ?_)
  · obtain ⟨p, n, rfl, _⟩ := h
    rfl
  · obtain ⟨p, n, rfl, hp, h1, hn, he, q⟩ := h
    obtain ⟨x0, y0, hpp, _⟩ := id hp
    refine ⟨_, (pss_cons (ps_set (i := 2) sc_l_drawn.nd rfl (.inl rfl) (pe_lst pa_nil))
      (pss_cons (ps_for PassesOwn.never rfl (pi_range1 rfl T.b_range (pa_cons pe_int pa_nil)) (pg_name (i := 3) sc_l_drawn.nd rfl (.inl rfl))
        (pss_cons (ps_set (i := 4) sc_l_drawn.nd rfl (.inr rfl) (pe_c (cal_l_draw T) hr (by decide) (by rfl) (pa_cons (pv 0) (pa_cons (pe_op op_shlN pe_int (pv 1)) pa_nil))))
        (pss_one (ps_if (pt_val (pe_callB (cr_all rfl) (by rfl) T.b_all bt_all (pa_cons (pe_lc (own := [("_law_other", 5)]) (by rfl) sc_l_drawn.nd (pi_list (pe_op op_cat (pv 2) (pe_lst (pa_cons (pv 4) pa_nil)))) (blkOk_by (N := N_l_drawn) (sc := defScope s_l_drawn) (by decide +kernel)) (fun _ _ _ _ _ => (pg_name (i := 5) sc_l_drawn.nd rfl (.inl rfl))) (fun _ _ _ _ _ => pts_nil) (fun _ _ _ _ _ => (pe_cmpR op_eqN (pe_op op_mdN (pe_c (cal_l_weight T) hr (by decide) (by rfl) (pa_cons (pe_op op_andN (pv 4) (pv 5)) pa_nil)) pe_int) pe_int (nomark _)))) pa_nil)))
          (pss_one (ps_expr (pe_bm PySem.F.plainAttrs_list PySem.F.slot_list_append PySem.F.type_list_append mt_append (pv 2) (pa_cons (pv 4) pa_nil))))
          pss_nil))))
      (pss_one (ps_ret (pe_c (cal_filled T) hr (by decide) (by rfl) (pa_cons (pe_mk (mak_Room T) hr (by decide) (by rfl) (pa_cons (pv 1) (pa_cons (pv 2) pa_nil))) pa_nil)))))), ?_⟩
    refine ⟨Nat.zero_le _, fun fa hfa => ?_⟩
    have nfp : fa ≠ p := fun e => by rw [e, hpp] at hfa; cases hfa
    refine ⟨_, rfl, by decide, by decide, ?_⟩
    refine for_range (n := 4) (fun i σ H' => (∃ y3 y4, σ = [some (.ref p), some (vN n), some (.ref fa), y3, y4, none]) ∧ But p H H' ∧ PotAt H' p ∧ ∃ W, H' fa = some (.lst (vL W)) ∧ W.length ≤ i ∧ Ow.Still W ∧ ∀ x ∈ W, x < 2 ^ n) ?_ ?_ ?_
    · exact ⟨⟨_, _, rfl⟩, (same_upd hfa).but, hp.same (same_upd hfa), [], upd_same, Nat.le_refl _, (fun b hb => nomatch hb), fun x hx => nomatch hx⟩
    · rintro i σ H1 hi ⟨⟨y3, y4, rfl⟩, b1, hp1, W, hW, hWl, hS, hlt⟩
      refine ⟨_, rfl, _, rfl, 1, _, rfl, rfl, ⟨by decide, by omega⟩, p, 1 <<< n, rfl, hp1, (by rw [Nat.one_shiftLeft]; exact Nat.two_pow_pos n), shl_lt hn, fun H2 d b2 hp2 hd => ?_⟩
      rw [Nat.one_shiftLeft] at hd
      have hW2 := b2 _ _ hW nfp
      have hd24 : d < 2 ^ 24 := Nat.lt_of_lt_of_le hd (Nat.pow_le_pow_right (by decide) hn)
      refine ⟨_, rfl, _, rfl, (by decide : 1 ≤ sizeLine), fun l hl => ?_⟩
      have nlf : fa ≠ l := ne_of_none hW2 hl
      refine ⟨fa, l, _, _, rfl, rfl, (same_upd hl) _ _ hW2, upd_same, small' (by rw [vL_length]; simp; omega), fun c hc => ?_⟩
      have hcl : (upd (upd H2 l (.lst [vN d])) c (.lst (vL W ++ [vN d]))) c = some (.lst (vL (W ++ [d]))) := by rw [upd_same, vL_append]; rfl
      have s2c : Same H2 (upd (upd H2 l (.lst [vN d])) c (.lst (vL W ++ [vN d]))) := (same_upd hl).trans (same_upd hc)
      refine ⟨c, rfl, ⟨_, sqL_new hcl⟩, fun D hD => lcGL (fun _ => true) (fun o y _ => y = .bl (decide (Ow.wt (d &&& o) % 2 = 0))) hD (sqL_new hcl) (small (by rw [List.length_append, List.length_singleton]; omega)) pure_stays ?_ ?_⟩
      · intro o H3 Qn Qs hb s _ k1 k2
        refine ⟨rfl, _, rfl, _, rfl, _, _, rfl, rfl, _, rfl, Nat.lt_of_le_of_lt Nat.and_le_left hd24, _, 2, rfl, rfl, (by decide : 0 < 2), _, 0, rfl, rfl, ?_⟩
        exact k1 rfl _ _ (Same.refl _) rfl
      · intro H3 ys s3 hy pr
        have ey := Paired.eq_map pr
        rw [List.filter_eq_self.mpr fun _ _ => rfl] at ey
        subst ey
        have hp3 := (hp2.same s2c).same s3
        have hW3 := s3 _ _ (s2c _ _ hW2)
        have b3 : But p H H3 := b1.trans (b2.trans (s2c.trans s3).but)
        refine ⟨D, (W ++ [d]).map fun o => decide (Ow.wt (d &&& o) % 2 = 0), rfl, sqL_new (by rw [hy, List.map_map]; rfl), _, rfl, ite2 (fun e => ?_) fun e => ?_⟩
        · have hev : ∀ o ∈ W ++ [d], Ow.ev d o := fun o ho => by
            have e2 : ((W ++ [d]).map fun o => decide (Ow.wt (d &&& o) % 2 = 0)).all id = true := e
            exact of_decide_eq_true (List.all_eq_true.mp e2 _ (List.mem_map.mpr ⟨o, ho, rfl⟩))
          refine ⟨_, rfl, .inl ⟨rfl, _, sqL_new hW3⟩, _, rfl, fa, _, _, rfl, rfl, hW3, small (by rw [vL_length]; omega), ⟨_, _, rfl⟩, ?_, ?_, W ++ [d], by rw [upd_same, vL_append]; rfl, by rw [List.length_append, List.length_singleton]; omega, still_snoc hS hev, ?_⟩
          · intro c o e ne
            rw [upd_ne (ne_of_none e hfa)]
            exact b3 _ _ e ne
          · obtain ⟨x1, y1, k1, k2⟩ := hp3
            exact ⟨x1, y1, by rw [upd_ne (Ne.symm nfp)]; exact k1, k2⟩
          · intro x hx
            rcases List.mem_append.mp hx with hx | hx
            · exact hlt x hx
            · rw [List.mem_singleton.mp hx]
              exact hd
        · exact ⟨⟨_, _, rfl⟩, b3, hp3, W, hW3, by omega, hS, hlt⟩
    · rintro σ H1 ⟨⟨y3, y4, rfl⟩, b1, hp1, W, hW, hWl, hS, hlt⟩
      refine ⟨_, rfl, _, rfl, fun x dx hx hdx ne => ⟨x, dx, upd_same, .inr ⟨fa, n, W, rfl, (by rw [upd_ne (ne_of_none hW hx), upd_ne (ne_of_none hW hdx)]; exact hW), h1, hn, by omega, hlt, fun H2 b hb k e => ⟨rfl, ?_⟩⟩⟩⟩
      have s12 : Same H1 H2 := Same.made hx hdx k
      have hSp : Ow.Still (Ow.plainBasis W) := hS.of_span fun b hb => Ow.mem_plainBasis_span.mp (Ow.mem_span_of_mem hb)
      refine ⟨x, n, _, rfl, ⟨dx, b, e, hb⟩, Ow.plainBasis_plain W, Ow.plainBasis_lt hlt, hSp, hn, he, fun H3 r F s3 hr3 hF => ?_⟩
      exact q H3 r F (b1.trans (s12.trans s3).but) ((hp1.same s12).same s3) hr3 hF
abbrev N_l_names : List Str := ["_law_room", "_law_kind", "_law_spots"]
theorem sc_l_names : FnScope N_l_names ["_law_room"] (defScope s_l_names) := ⟨rfl, rfl, rfl, by decide +kernel, rfl, by decide +kernel, by decide +kernel⟩
def namesOf (B : List Nat) : List Str := if Ow.heavyOf B = [] then [] else ["e8"]
def sp_l_names (K : PySem.W.Frag) : Sp := fun vs H Q _ => ∃ (a : Addr) (n m : Nat) (B : List Nat), vs = [.ref a] ∧ RoomAt K H a n B ∧ Ow.Own n B ∧ n = 2 * m ∧ 1 ≤ m ∧ m ≤ 5 ∧ ∀ (H' : Hp) (p l : Addr), Same H H' → H' p = some (.tup [vN (Ow.np B), .ref l]) → H' l = some (.lst ((namesOf B).map V.str)) → Q (.ref p) H'
theorem cal_l_names (T : Tx K mg) : Cal P w K mg base 8 "_law_names" (sp_l_names K) := by
  refine calD (ps := ["_law_room"]) T.f_l_names (fun _ _ _ _ _ _ us hl => match us, hl with | [_], _ => rfl) sc_l_names (fun vs H Q E h => ?_) (fun cdv A outer s H vs Q E hr h => ?_)
  · obtain ⟨a, n, m, B, rfl, _⟩ := h
    rfl
  · obtain ⟨a, n, m, B, rfl, hA, oB, hm, h1, h5, q⟩ := h
    refine ⟨_, (pss_one (ps_ret (pe_tup (pa_cons (pe_callB call_len_seq (by rfl) T.b_len bt_len (pa_cons (pe_c (cal_pairs T) hr (by decide) (by rfl) (pa_cons (pv 0) pa_nil)) pa_nil)) (pa_cons (pe_callB cr_sortedS (by rfl) T.b_sorted bt_sorted (pa_cons (pe_lc (own := [("_law_kind", 1), ("_law_spots", 2)]) (by rfl) sc_l_names.nd (pi_list (pe_c (cal_fours_kinds T) hr (by decide) (by rfl) (pa_cons (pv 0) pa_nil))) (blkOk_by (N := N_l_names) (sc := defScope s_l_names) (by decide +kernel)) (fun _ _ _ _ _ => (pg_tupK (K' := K) (n := 2) rfl (by rfl) (pgs_cons (pg_name (i := 1) sc_l_names.nd rfl (.inl rfl)) (pgs_cons (pg_name (i := 2) sc_l_names.nd rfl (.inl rfl)) pgs_nil)))) (fun _ _ _ _ _ => pts_nil) (fun _ _ _ _ _ => (pv 1))) pa_nil)) pa_nil))))), ?_⟩
    refine ⟨_, rfl, a, n, B, rfl, hA, oB, by omega, fun H1 l1 s1 hl1 => ?_⟩
    refine ⟨l1, _, rfl, .inl (sqL_new hl1), ?_⟩
    refine ⟨_, rfl, a, n, m, B, rfl, hA.same s1, oB, hm, h1, h5, fun H2 l2 s2 hl2 => ?_⟩
    have enp : V.int ((vL (Ow.pairsOf B)).length : Int) = vN (Ow.np B) := by rw [vL_length, Ow.pairsOf_length]
    rcases hl2 with ⟨hz, hl2⟩ | ⟨hz, t, s, hl2, ht, hs⟩
    · refine ⟨l2, rfl, ⟨[], sqL_new hl2⟩, fun D hD => lcGW walk_list ([] : List Nat) (fun _ => true) (fun _ y _ => y = .str "e8") rfl hD (fun H s => sqL_new (s _ _ hl2)) (small (by decide)) (fun _ _ _ _ h _ => h) ?_ ?_⟩
      · rintro i b x H3 H4 Qn Qs hb
        cases hb
      · intro H3 ys s3 hy pr
        cases pr
        refine ⟨D, [], rfl, sqL_new hy, by decide, fun zs p hz2 _ hp => ?_⟩
        obtain rfl := List.perm_nil.mp hz2
        refine ⟨(by decide : 2 ≤ sizeLine), fun r hr => q _ r p (s1.trans (s2.trans (s3.trans ((same_upd hp).trans (same_upd hr))))) (by rw [upd_same, ← enp]) ?_⟩
        rw [namesOf, if_pos hz]
        exact (same_upd hr) _ _ upd_same
    · refine ⟨l2, rfl, ⟨_, sqL_new hl2⟩, fun D hD => lcGW walk_list ([()] : List Unit) (fun _ => true) (fun _ y _ => y = .str "e8") rfl hD (fun H s => sqL_new (s _ _ hl2)) (small (by decide)) (fun _ _ _ _ h _ => h) ?_ ?_⟩
      · rintro i b x H3 H4 Qn Qs hb s3 ⟨rfl, hx⟩ acc k1 k2
        have hi : i < 1 := (List.getElem?_eq_some_iff.mp hx).1
        obtain rfl : i = 0 := by omega
        obtain rfl : x = .ref t := (Option.some.inj hx).symm
        refine ⟨t, _, rfl, sqT_new (s3 _ _ ht), rfl, _, _, rfl, _, _, rfl, rfl, rfl, ?_⟩
        exact ⟨_, rfl, k1 rfl _ _ (Same.refl _) rfl⟩
      · intro H3 ys s3 hy pr
        have ey := Paired.eq_map (f := fun _ => V.str "e8") pr
        subst ey
        refine ⟨D, ["e8"], rfl, sqL_new hy, by decide, fun zs p hz2 _ hp => ?_⟩
        obtain rfl := List.perm_singleton.mp hz2
        refine ⟨(by decide : 2 ≤ sizeLine), fun r hr => q _ r p (s1.trans (s2.trans (s3.trans ((same_upd hp).trans (same_upd hr))))) (by rw [upd_same, ← enp]) ?_⟩
        rw [namesOf, if_neg hz]
        exact (same_upd hr) _ _ upd_same
end
end Oc
set_option Elab.async false
set_option linter.all false
set_option maxRecDepth 100000
set_option maxHeartbeats 4000000
namespace Oc
open PySem PySem.Spec PyProof.Rows L2
section
variable {P : Program} {w : World} {K : PySem.W.Frag} {mg : Str → Option Value} {base : Heap}
abbrev N_l_made : List Str := ["_law_pot_here", "_law_places", "_law_wide", "_law_words", "_law_sequence_here", "_law_many", "_law_due", "_law_at", "_law_word_here"]
theorem sc_l_made : FnScope N_l_made ["_law_pot_here", "_law_places"] (defScope s_l_made) := ⟨rfl, rfl, rfl, by decide +kernel, rfl, by decide +kernel, by decide +kernel⟩
def sp_l_made (K : PySem.W.Frag) : Sp := fun vs H Q _ => ∃ (p : Addr) (n m : Nat), vs = [.ref p, vN n] ∧ PotAt H p ∧ n = 2 * m ∧ 1 ≤ m ∧ m ≤ 5 ∧ ∀ (H' : Hp) (q r : Addr) (B : List Nat), But p H H' → PotAt H' p → H' q = some (.tup [.ref r, vN (Ow.dueOf m (Ow.np B))]) → RoomAt K H' r n B → Ow.Own n B → Q (.ref q) H'
abbrev dueUp (d0 i : Nat) : Nat := (List.range i).foldl (fun d i => d * 2 * (i + 1)) d0
theorem dueUp_succ (d0 i : Nat) : dueUp d0 (i + 1) = dueUp d0 i * 2 * (i + 1) := by
  unfold dueUp
  rw [List.range_succ, List.foldl_append]
  rfl
theorem wide_of {x n : Nat} (h : x ∈ [0, 8].filter fun b => decide (b ≤ n)) : x = 0 ∨ (x = 8 ∧ 8 ≤ n) := by
  obtain ⟨h1, h2⟩ := List.mem_filter.mp h
  have h3 := of_decide_eq_true h2
  rcases List.mem_cons.mp h1 with e | h1
  · exact .inl e
  · have e := List.mem_singleton.mp h1
    exact .inr ⟨e, by omega⟩
theorem cal_l_made (T : Tx K mg) : Cal P w K mg base 9 "_law_made" (sp_l_made K) := by
  refine calD (ps := ["_law_pot_here", "_law_places"]) T.f_l_made (fun _ _ _ _ _ _ us hl => match us, hl with | [_, _], _ => rfl) sc_l_made (fun vs H Q E h => ?_) (fun cdv A outer s H vs Q E hr h => ?_)
  · obtain ⟨p, n, m, rfl, _⟩ := h
    rfl
  · obtain ⟨p, n, m, rfl, hp, hm, h1, h5, q⟩ := h
    obtain ⟨x0, y0, hpp, _⟩ := id hp
    have hn : n ≤ 24 := by omega
    refine ⟨_, (pss_cons (ps_set (i := 2) sc_l_made.nd rfl (.inr rfl) (pe_c (cal_l_pick T) hr (by decide) (by rfl) (pa_cons (pv 0) (pa_cons (pe_lc (own := [("_law_at", 7)]) (by rfl) sc_l_made.nd (pi_list (pe_lst (pa_cons pe_int (pa_cons pe_int pa_nil)))) (blkOk_by (N := N_l_made) (sc := defScope s_l_made) (by decide +kernel)) (fun _ _ _ _ _ => (pg_name (i := 7) sc_l_made.nd rfl (.inl rfl))) (fun _ _ _ _ _ => (pts_one (pt_cmpR op_leN (pv 7) (pv 1) (nomark _)))) (fun _ _ _ _ _ => (pv 7))) pa_nil))))
      (pss_cons (ps_set (i := 3) sc_l_made.nd rfl (.inl rfl) (pe_ifExp (pt_cmpR op_eqN (pv 2) pe_int (nomark _)) (pe_lst (pa_cons pe_int (pa_cons pe_int (pa_cons pe_int (pa_cons pe_int pa_nil))))) (pe_lst pa_nil)))
      (pss_cons (ps_asg (pe_tup (pa_cons (pe_c (cal_l_sequence T) hr (by decide) (by rfl) (pa_cons (pv 0) (pa_cons (pv 1) pa_nil))) (pa_cons (pe_op op_fdN (pe_op op_subN (pv 1) (pv 2)) pe_int) pa_nil))) (pg_tup (by rfl) (pgs_cons (pg_name (i := 4) sc_l_made.nd rfl (.inr rfl)) (pgs_cons (pg_name (i := 5) sc_l_made.nd rfl (.inl rfl)) pgs_nil))))
      (pss_cons (ps_set (i := 3) sc_l_made.nd rfl (.inl rfl) (pe_op op_cat (pv 3) (pe_lc (own := [("_law_at", 7)]) (by rfl) sc_l_made.nd (pi_range1 rfl T.b_range (pa_cons (pv 5) pa_nil)) (blkOk_by (N := N_l_made) (sc := defScope s_l_made) (by decide +kernel)) (fun _ _ _ _ _ => (pg_name (i := 7) sc_l_made.nd rfl (.inl rfl))) (fun _ _ _ _ _ => pts_nil) (fun _ _ _ _ _ => (pe_op op_shlN pe_int (pe_op op_addN (pv 2) (pe_op op_mulN pe_int (pv 7))))))))
      (pss_cons (ps_set (i := 6) sc_l_made.nd rfl (.inl rfl) (pe_ifExp (pt_cmpR op_eqN (pv 2) pe_int (nomark _)) pe_int pe_int))
      (pss_cons (ps_for PassesOwn.never rfl (pi_range2 rfl T.b_range (pa_cons pe_int (pa_cons (pe_op op_addN (pv 5) pe_int) pa_nil))) (pg_name (i := 7) sc_l_made.nd rfl (.inl rfl))
        (pss_one (ps_set (i := 6) sc_l_made.nd rfl (.inl rfl) (pe_op op_mulN (pe_op op_mulN (pv 6) pe_int) (pv 7)))))
      (pss_one (ps_ret (pe_tup (pa_cons (pe_mk (mak_Room T) hr (by decide) (by rfl) (pa_cons (pv 1) (pa_cons (pe_lc (own := [("_law_word_here", 8)]) (by rfl) sc_l_made.nd (pi_list (pv 3)) (blkOk_by (N := N_l_made) (sc := defScope s_l_made) (by decide +kernel)) (fun _ _ _ _ _ => (pg_name (i := 8) sc_l_made.nd rfl (.inl rfl))) (fun _ _ _ _ _ => pts_nil) (fun _ _ _ _ _ => (pe_c (cal_l_led T) hr (by decide) (by rfl) (pa_cons (pv 8) (pa_cons (pv 4) pa_nil))))) pa_nil))) (pa_cons (pv 6) pa_nil))))))))))), ?_⟩
    refine ⟨_, rfl, (by decide : 2 ≤ sizeLine), fun l hl => ?_⟩
    have hl2 : (upd H l (.lst [.int 0, .int 8])) l = some (.lst (vL [0, 8])) := upd_same
    have s0 : Same H (upd H l (.lst [.int 0, .int 8])) := same_upd hl
    refine ⟨l, rfl, ⟨_, sqL_new hl2⟩, fun D hD => lcGL (fun b => decide (b ≤ n)) (fun b y _ => y = vN b) hD (sqL_new hl2) (small (by decide)) pure_stays ?_ ?_⟩
    · intro b H3 Qn Qs hb s _ k1 k2
      refine ⟨rfl, _, rfl, _, rfl, _, _, rfl, rfl, _, rfl, ite2 (fun e => ?_) fun e => ?_⟩
      · exact ⟨_, rfl, k1 e _ _ (Same.refl _) rfl⟩
      · exact k2 (Bool.not_eq_true _ ▸ e) _ (Same.refl _)
    intro H2 ys s2 hy pr
    have ey := Paired.eq_map pr
    subst ey
    have hp2 := (hp.same s0).same s2
    have nDp : D ≠ p := fun e => by rw [e, s0 _ _ hpp] at hD; cases hD
    refine ⟨p, D, _, rfl, hp2, hy, nDp, by simp [List.filter_cons], Nat.lt_of_le_of_lt (List.length_filter_le _ _) (by decide), fun H3 wide b3 hp3 hw => ?_⟩
    have hB3 : But p H H3 := (s0.trans s2).but.trans b3
    clear hy hl2 hD
    have hwide : wide = 0 ∨ (wide = 8 ∧ 8 ≤ n) := wide_of hw
    rcases hwide with rfl | ⟨rfl, h8⟩
    · refine ⟨_, rfl, _, 8, rfl, rfl, _, rfl, Nat.zero_le _, fun wl hwl => ?_⟩
      have nwp : wl ≠ p := fun e => by obtain ⟨x1, y1, g, _⟩ := hp3; rw [e, g] at hwl; cases hwl
      have hp4 : PotAt (upd H3 wl (.lst (vL ([] : List Nat)))) p := hp3.same (same_upd hwl)
      refine ⟨_, rfl, _, rfl, p, n, rfl, hp4, hn, fun H5 sq τ b5 hp5 nsq hsq hseq => ?_⟩
      have hwl5 : H5 wl = some (.lst (vL ([] : List Nat))) := b5 _ _ upd_same nwp
      have hB5 : But p H H5 := hB3.trans ((same_upd hwl).but.trans b5)
      obtain ⟨many, em⟩ : ∃ many, many = (n - 0) / 2 := ⟨_, rfl⟩
      refine ⟨_, rfl, _, rfl, _, 0, rfl, rfl, by omega, _, 2, rfl, rfl, ⟨by decide, by decide⟩, (by decide : 2 ≤ sizeLine), fun t ht => ⟨t, _, rfl, sqT_new upd_same, rfl, _, _, rfl, vN many, [], (by rw [em]), rfl, ?_⟩⟩
      have hm5 : many ≤ 5 := by omega
      have s56 : ∀ H7, Same (upd H5 t (.tup [.ref sq, vN ((n - 0) / 2)])) H7 → Same H5 H7 := fun _ s => (same_upd ht).trans s
      refine ⟨_, rfl, _, rfl, _, rfl, by omega, by omega, ?_⟩
      rw [Int.toNat_natCast]
      refine fun D2 hD2 => lcGR (fun _ => true) (fun b y _ => y = vN (3 <<< (0 + 2 * b))) hD2 (small (by omega)) pure_stays ?_ ?_
      · intro b H7 Qn Qs hb s _ k1 k2
        have hb2 : b < many := List.mem_range.mp hb
        refine ⟨rfl, _, rfl, _, rfl, 2, _, rfl, rfl, .inl (by decide), 0, _, rfl, rfl, 3, _, rfl, rfl, ⟨by decide, by omega⟩, ?_⟩
        exact k1 rfl _ _ (Same.refl _) rfl
      · intro H7 ys s7 hy7 pr7
        have ey7 := Paired.eq_map pr7
        rw [List.filter_eq_self.mpr fun _ _ => rfl] at ey7
        subst ey7
        have hmw : Ow.madeWords 0 many = ([] : List Nat) ++ (List.range many).map fun i => 3 <<< (0 + 2 * i) := rfl
        refine ⟨wl, D2, _, _, rfl, rfl, (s56 _ s7) _ _ hwl5, hy7, small' (by simp; omega), fun wl2 hwl2 => ?_⟩
        obtain ⟨H8, eH8⟩ : ∃ H8, H8 = upd H7 wl2 (.lst (vL ([] : List Nat) ++ (List.range many).map fun i => vN (3 <<< (0 + 2 * i)))) := ⟨_, rfl⟩
        have s78 : Same H7 H8 := by rw [eH8]; exact same_upd hwl2
        have hw8 : H8 wl2 = some (.lst (vL (Ow.madeWords 0 many))) := by rw [eH8, upd_same, hmw, vL_append, vL_map]
        rw [← eH8]
        have s58 : Same H5 H8 := (s56 _ s7).trans s78
        have hp8 := hp5.same s58
        refine ⟨_, rfl, _, 8, rfl, rfl, _, rfl, ?_⟩
        refine ⟨_, rfl, _, 1, rfl, rfl, _, _, rfl, ⟨by decide, by decide, by omega, by omega⟩, ?_⟩
        refine for_range (fun i σ H' => H' = H8 ∧ ∃ y7, σ = [some (.ref p), some (vN n), some (vN 0), some (.ref wl2), some (.ref sq), some (vN many), some (vN (dueUp 1 i)), y7, none]) ⟨rfl, none, rfl⟩ ?_ ?_
        · rintro i σ H9 hi ⟨rfl, y7, rfl⟩
          refine ⟨_, rfl, _, 2, rfl, rfl, .inr (by decide), _, rfl, _, i + 1, rfl, (congrArg V.int (by omega)), .inr (by omega), rfl, some (.int (1 + (i : Int))), ?_⟩
          rw [dueUp_succ]
          rfl
        · rintro σ H9 ⟨rfl, y7, rfl⟩
          have ecnt : (((many + 1 : Nat) : Int) - 1).toNat = many := by omega
          have hmwl : (Ow.madeWords 0 many).length ≤ 9 := by rw [hmw]; simp; omega
          refine ⟨_, rfl, _, rfl, wl2, rfl, ⟨_, sqL_new hw8⟩, fun D3 hD3 => lcGL (fun _ => true) (fun b y _ => y = vN (Ow.led τ b)) hD3 (sqL_new hw8) (small (by omega)) pure_stays ?_ ?_⟩
          · intro b H10 Qn Qs hb s _ k1 k2
            refine ⟨rfl, _, rfl, _, rfl, sq, b, τ, rfl, sqL_new (s _ _ (s58 _ _ hsq)), by rw [hseq.len]; omega, fun x hx => ?_, fun H11 s11 => k1 rfl _ _ s11 rfl⟩
            have := List.mem_range.mp (hseq.mem_iff.mp hx)
            omega
          · intro H10 ys s10 hy10 pr10
            have ey10 := Paired.eq_map pr10
            rw [List.filter_eq_self.mpr fun _ _ => rfl] at ey10
            subst ey10
            have hD10 : H10 D3 = some (.lst (vL ((Ow.madeWords 0 many).map (Ow.led τ)))) := by rw [hy10, vL_map]
            obtain ⟨g1, g2, g3⟩ := Ow.made_own (wide := 0) hm h1 h5 (.inl rfl) hseq
            rw [← em] at g1 g2 g3
            refine fun x dx hx hdx ne => ⟨x, dx, upd_same, .inr ⟨D3, n, (Ow.madeWords 0 many).map (Ow.led τ), rfl, (by rw [upd_ne (ne_of_none hD10 hx), upd_ne (ne_of_none hD10 hdx)]; exact hD10), by omega, hn, by rw [List.length_map]; omega, fun y hy => ?_, fun H11 b hb k e => ⟨rfl, ?_⟩⟩⟩
            · obtain ⟨z, _, rfl⟩ := List.mem_map.mp hy
              exact Ow.led_lt hseq z
            have s11 : Same H10 H11 := Same.made hx hdx k
            refine ⟨_, rfl, (by decide : 2 ≤ sizeLine), fun tt htt => ?_⟩
            have s9 := (s58.trans (s10.trans s11)).trans (same_upd (o := .tup [.ref x, vN (dueUp 1 (((many + 1 : Nat) : Int) - 1).toNat)]) htt)
            refine q _ tt x _ (hB5.trans s9.but) (hp5.same s9) ?_ (RoomAt.same ⟨dx, b, e, hb⟩ (same_upd htt)) g1
            rw [upd_same, ecnt, g2, g3]
            rfl
    · refine ⟨_, rfl, _, 8, rfl, rfl, _, rfl, (by decide : 4 ≤ sizeLine), fun wl hwl => ?_⟩
      have nwp : wl ≠ p := fun e => by obtain ⟨x1, y1, g, _⟩ := hp3; rw [e, g] at hwl; cases hwl
      have hp4 : PotAt (upd H3 wl (.lst (vL [15, 60, 240, 170]))) p := hp3.same (same_upd hwl)
      refine ⟨_, rfl, _, rfl, p, n, rfl, hp4, hn, fun H5 sq τ b5 hp5 nsq hsq hseq => ?_⟩
      have hwl5 : H5 wl = some (.lst (vL [15, 60, 240, 170])) := b5 _ _ upd_same nwp
      have hB5 : But p H H5 := hB3.trans ((same_upd hwl).but.trans b5)
      obtain ⟨many, em⟩ : ∃ many, many = (n - 8) / 2 := ⟨_, rfl⟩
      refine ⟨_, rfl, _, rfl, _, 8, rfl, rfl, by omega, _, 2, rfl, rfl, ⟨by decide, by decide⟩, (by decide : 2 ≤ sizeLine), fun t ht => ⟨t, _, rfl, sqT_new upd_same, rfl, _, _, rfl, vN many, [], (by rw [em]), rfl, ?_⟩⟩
      have hm5 : many ≤ 5 := by omega
      have s56 : ∀ H7, Same (upd H5 t (.tup [.ref sq, vN ((n - 8) / 2)])) H7 → Same H5 H7 := fun _ s => (same_upd ht).trans s
      refine ⟨_, rfl, _, rfl, _, rfl, by omega, by omega, ?_⟩
      rw [Int.toNat_natCast]
      refine fun D2 hD2 => lcGR (fun _ => true) (fun b y _ => y = vN (3 <<< (8 + 2 * b))) hD2 (small (by omega)) pure_stays ?_ ?_
      · intro b H7 Qn Qs hb s _ k1 k2
        have hb2 : b < many := List.mem_range.mp hb
        refine ⟨rfl, _, rfl, _, rfl, 2, _, rfl, rfl, .inl (by decide), 8, _, rfl, rfl, 3, _, rfl, rfl, ⟨by decide, by omega⟩, ?_⟩
        exact k1 rfl _ _ (Same.refl _) rfl
      · intro H7 ys s7 hy7 pr7
        have ey7 := Paired.eq_map pr7
        rw [List.filter_eq_self.mpr fun _ _ => rfl] at ey7
        subst ey7
        have hmw : Ow.madeWords 8 many = [15, 60, 240, 170] ++ (List.range many).map fun i => 3 <<< (8 + 2 * i) := rfl
        refine ⟨wl, D2, _, _, rfl, rfl, (s56 _ s7) _ _ hwl5, hy7, small' (by simp; omega), fun wl2 hwl2 => ?_⟩
        obtain ⟨H8, eH8⟩ : ∃ H8, H8 = upd H7 wl2 (.lst (vL [15, 60, 240, 170] ++ (List.range many).map fun i => vN (3 <<< (8 + 2 * i)))) := ⟨_, rfl⟩
        have s78 : Same H7 H8 := by rw [eH8]; exact same_upd hwl2
        have hw8 : H8 wl2 = some (.lst (vL (Ow.madeWords 8 many))) := by rw [eH8, upd_same, hmw, vL_append, vL_map]
        rw [← eH8]
        have s58 : Same H5 H8 := (s56 _ s7).trans s78
        have hp8 := hp5.same s58
        refine ⟨_, rfl, _, 8, rfl, rfl, _, rfl, ?_⟩
        refine ⟨_, rfl, _, 1, rfl, rfl, _, _, rfl, ⟨by decide, by decide, by omega, by omega⟩, ?_⟩
        refine for_range (fun i σ H' => H' = H8 ∧ ∃ y7, σ = [some (.ref p), some (vN n), some (vN 8), some (.ref wl2), some (.ref sq), some (vN many), some (vN (dueUp 1344 i)), y7, none]) ⟨rfl, none, rfl⟩ ?_ ?_
        · rintro i σ H9 hi ⟨rfl, y7, rfl⟩
          refine ⟨_, rfl, _, 2, rfl, rfl, .inr (by decide), _, rfl, _, i + 1, rfl, (congrArg V.int (by omega)), .inr (by omega), rfl, some (.int (1 + (i : Int))), ?_⟩
          rw [dueUp_succ]
          rfl
        · rintro σ H9 ⟨rfl, y7, rfl⟩
          have ecnt : (((many + 1 : Nat) : Int) - 1).toNat = many := by omega
          have hmwl : (Ow.madeWords 8 many).length ≤ 9 := by rw [hmw]; simp; omega
          refine ⟨_, rfl, _, rfl, wl2, rfl, ⟨_, sqL_new hw8⟩, fun D3 hD3 => lcGL (fun _ => true) (fun b y _ => y = vN (Ow.led τ b)) hD3 (sqL_new hw8) (small (by omega)) pure_stays ?_ ?_⟩
          · intro b H10 Qn Qs hb s _ k1 k2
            refine ⟨rfl, _, rfl, _, rfl, sq, b, τ, rfl, sqL_new (s _ _ (s58 _ _ hsq)), by rw [hseq.len]; omega, fun x hx => ?_, fun H11 s11 => k1 rfl _ _ s11 rfl⟩
            have := List.mem_range.mp (hseq.mem_iff.mp hx)
            omega
          · intro H10 ys s10 hy10 pr10
            have ey10 := Paired.eq_map pr10
            rw [List.filter_eq_self.mpr fun _ _ => rfl] at ey10
            subst ey10
            have hD10 : H10 D3 = some (.lst (vL ((Ow.madeWords 8 many).map (Ow.led τ)))) := by rw [hy10, vL_map]
            obtain ⟨g1, g2, g3⟩ := Ow.made_own (wide := 8) hm h1 h5 (.inr ⟨rfl, by omega⟩) hseq
            rw [← em] at g1 g2 g3
            refine fun x dx hx hdx ne => ⟨x, dx, upd_same, .inr ⟨D3, n, (Ow.madeWords 8 many).map (Ow.led τ), rfl, (by rw [upd_ne (ne_of_none hD10 hx), upd_ne (ne_of_none hD10 hdx)]; exact hD10), by omega, hn, by rw [List.length_map]; omega, fun y hy => ?_, fun H11 b hb k e => ⟨rfl, ?_⟩⟩⟩
            · obtain ⟨z, _, rfl⟩ := List.mem_map.mp hy
              exact Ow.led_lt hseq z
            have s11 : Same H10 H11 := Same.made hx hdx k
            refine ⟨_, rfl, (by decide : 2 ≤ sizeLine), fun tt htt => ?_⟩
            have s9 := (s58.trans (s10.trans s11)).trans (same_upd (o := .tup [.ref x, vN (dueUp 1344 (((many + 1 : Nat) : Int) - 1).toNat)]) htt)
            refine q _ tt x _ (hB5.trans s9.but) (hp5.same s9) ?_ (RoomAt.same ⟨dx, b, e, hb⟩ (same_upd htt)) g1
            rw [upd_same, ecnt, g2, g3]
            rfl
end
end Oc
set_option Elab.async false
set_option linter.all false
set_option maxRecDepth 100000
set_option maxHeartbeats 8000000
namespace Ow
theorem names_eq {n : Nat} {A B : List Nat} (hA : Own n A) (hB : Own n B) (e : np A = np B) : heavyOf A = [] ↔ heavyOf B = [] := by
  have h1 := heavy_length A
  have h2 := heavy_length B
  have h3 := hA.half
  have h4 := hB.half
  rw [← List.length_eq_zero_iff, ← List.length_eq_zero_iff]
  omega
theorem pairs_sorted_led {n : Nat} {A B σ : List Nat} (hA : Own n A) (hB : Own n B) (hn : n ≤ 24) (hs : IsSeq n σ) (hp : ((span A).map (led σ)).Perm (span B)) : upN ((pairsOf A).map (led σ)) = pairsOf B :=
  (upN_of (pairs_led hA hB hn hs hp).symm (upN_sorted _)).symm
end Ow
namespace Oc
open PySem PySem.Spec PyProof.Rows L2
abbrev csc_l_right : Scope := { kind := ScopeKind.function, names := [(".0", NameKind.local), ("_law_kind", NameKind.local), ("_law_spots", NameKind.local), ("sorted", NameKind.globalImplicit), ("_law_found", NameKind.cell)], isGenerator := false, isCoroutine := false }
def namesD (B : List Nat) : PyData := .tuple [.int (Ow.np B : Int), .list ((namesOf B).map PyData.str)]
theorem dp_strs {K : PySem.W.Frag} {H : Hp} : ∀ l : List Str, DpAll K H (l.map V.str) (l.map PyData.str)
  | [] => .nil
  | x :: l => .cons (.str x) (dp_strs l)
theorem dp_names {K : PySem.W.Frag} {H : Hp} {p l : Addr} {B : List Nat} (h1 : H p = some (.tup [vN (Ow.np B), .ref l])) (h2 : H l = some (.lst ((namesOf B).map V.str))) : Dp K H (.ref p) (namesD B) :=
  .tup (sqT_new h1) (.cons (.int _) (.cons (.lst (sqL_new h2) (dp_strs _)) .nil))
theorem e8_ok : PyData.canLay0 (.str "e8") = true := by
  simp only [PyData.canLay0]
  decide +kernel
theorem shaped_names (B : List Nat) : SeqAt.shaped (namesD B) = true := by
  unfold namesD namesOf
  split
  · refine shaped_of ?_ ?_
    · simp only [PyData.canLay0, PyData.canLayAll0, List.map_nil]; rfl
    · simp only [PyData.depth, PyData.depthAll, List.map_nil]; decide
  · refine shaped_of ?_ ?_
    · have := e8_ok
      simp only [PyData.canLay0] at this
      simp only [PyData.canLay0, PyData.canLayAll0, List.map_cons, List.map_nil, this]; rfl
    · simp only [PyData.depth, PyData.depthAll, List.map_cons, List.map_nil]; decide
theorem names_ne {A B : List Nat} (h : Ow.np A ≠ Ow.np B) : PyData.eqv (namesD A) (namesD B) = false := by
  unfold namesD
  simp only [PyData.eqv, PyData.eqvAll]
  have e : ((Ow.np A : Int) == (Ow.np B : Int)) = false := beq_eq_false_iff_ne.mpr (by omega)
  rw [e]
  rfl
theorem names_same {n : Nat} {A B : List Nat} (hA : Ow.Own n A) (hB : Ow.Own n B) (h : Ow.np A = Ow.np B) : PyData.eqv (namesD A) (namesD B) = true := by
  have hz := Ow.names_eq hA hB h
  unfold namesD namesOf
  rw [h]
  by_cases z : Ow.heavyOf A = []
  · rw [if_pos z, if_pos (hz.mp z)]
    simp [PyData.eqv, PyData.eqvAll]
  · rw [if_neg z, if_neg fun c => z (hz.mpr c)]
    simp [PyData.eqv, PyData.eqvAll]
abbrev lotD (s : List Nat) : PyData := .tuple [.str "e8", listD s]
def lotsD (B : List Nat) : PyData := .list (if Ow.heavyOf B = [] then [] else [lotD (Ow.spots (Ow.union (Ow.heavyOf B)))])
theorem dp_lot {K : PySem.W.Frag} {H : Hp} {t s : Addr} {l : List Nat} (h1 : H t = some (.tup [.str "e8", .ref s])) (h2 : H s = some (.lst (vL l))) : Dp K H (.ref t) (lotD l) := .tup (sqT_new h1) (.cons (.str _) (.cons (dp_list h2) .nil))
theorem dp_lots {K : PySem.W.Frag} {H : Hp} {p : Addr} {B : List Nat} (h : LotsAt H p B) : Dp K H (.ref p) (lotsD B) := by
  unfold lotsD
  rcases h with ⟨h1, h2⟩ | ⟨h1, t, s, h2, h3, h4⟩
  · rw [if_pos h1]
    exact .lst (sqL_new h2) .nil
  · rw [if_neg h1]
    exact .lst (sqL_new h2) (.cons (dp_lot h3 h4) .nil)
theorem lotD_depth (s : List Nat) : (lotD s).depth ≤ 3 := by
  unfold lotD listD
  simp only [PyData.depth, PyData.depthAll, depth_ints]
  decide
theorem lotD_lay (s : List Nat) : PyData.canLay0 (lotD s) = true := by
  have := e8_ok
  simp only [PyData.canLay0] at this
  unfold lotD
  simp only [PyData.canLay0, PyData.canLayAll0, canLay_list, this]
  rfl
theorem shaped_lots (B : List Nat) : SeqAt.shaped (lotsD B) = true := by
  unfold lotsD
  split
  · refine shaped_of ?_ ?_
    · simp only [PyData.canLay0, PyData.canLayAll0]
    · simp only [PyData.depth, PyData.depthAll]; decide
  · have h1 := lotD_depth (Ow.spots (Ow.union (Ow.heavyOf B)))
    have h2 := lotD_lay (Ow.spots (Ow.union (Ow.heavyOf B)))
    refine shaped_of ?_ ?_
    · rw [PyData.canLay0, PyData.canLayAll0, PyData.canLayAll0, h2]; rfl
    · rw [PyData.depth, PyData.depthAll, PyData.depthAll]
      omega
theorem lots_self (B : List Nat) : PyData.eqv (lotsD B) (lotsD B) = true := by
  unfold lotsD
  split
  · simp only [PyData.eqv, PyData.eqvAll]
  · rw [PyData.eqv, PyData.eqvAll, PyData.eqvAll, PyData.eqv, PyData.eqvAll, PyData.eqvAll, PyData.eqvAll, eqv_list, PyData.eqv]
    simp
end Oc
set_option Elab.async false
set_option linter.all false
set_option maxRecDepth 100000
set_option maxHeartbeats 8000000
namespace Oc
open PySem PySem.Spec PyProof.Rows L2
section
variable {P : Program} {w : World} {K : PySem.W.Frag} {mg : Str → Option Value} {base : Heap}
abbrev N_l_right : List Str := ["_law_pot_here", "_law_places", "_law_one", "_law_two", "_law_made_here", "_law_due", "_law_near", "_law_far", "_law_found", "_law_led_here", "_law_room", "_law_word_here", "_law_kind", "_law_spots", "_law_spot"]
theorem sc_l_right : FnScope N_l_right ["_law_pot_here"] (defScope s_l_right) := ⟨rfl, rfl, rfl, by decide +kernel, rfl, by decide +kernel, by decide +kernel⟩
def sp_l_right : Sp := fun vs H Q _ => ∃ (p : Addr), vs = [.ref p] ∧ PotAt H p ∧ ∀ H', Q (.bl true) H'
theorem places_of {n : Nat} (h : n ∈ [2, 4, 6, 8, 8, 10]) : ∃ m, n = 2 * m ∧ 1 ≤ m ∧ m ≤ 5 := by
  simp only [List.mem_cons, List.not_mem_nil, or_false] at h
  rcases h with rfl | rfl | rfl | rfl | rfl | rfl
  · exact ⟨1, rfl, by decide, by decide⟩
  · exact ⟨2, rfl, by decide, by decide⟩
  · exact ⟨3, rfl, by decide, by decide⟩
  · exact ⟨4, rfl, by decide, by decide⟩
  · exact ⟨4, rfl, by decide, by decide⟩
  · exact ⟨5, rfl, by decide, by decide⟩
/-- an own room of n places -/
def OwnAt (K : PySem.W.Frag) (H : Hp) (r n : Addr) : Prop := ∃ B, RoomAt K H r n B ∧ Ow.Own n B
theorem cal_l_right (T : Tx K mg) : Cal P w K mg base 12 "_law_right" sp_l_right := by
  refine calD (ps := ["_law_pot_here"]) T.f_l_right (fun _ _ _ _ _ _ us hl => match us, hl with | [_], _ => rfl) sc_l_right (fun vs H Q E h => ?_) (fun cdv A outer s H vs Q E hr h => ?_)
  · obtain ⟨p, rfl, _⟩ := h
    rfl
  · obtain ⟨p, rfl, hp, q⟩ := h
    obtain ⟨x0, y0, hpp, _⟩ := id hp
    refine ⟨_, (pss_cons (ps_set (i := 1) sc_l_right.nd rfl (.inl rfl) (pe_c (cal_l_pick T) hr (by decide) (by rfl) (pa_cons (pv 0) (pa_cons (pe_lst (pa_cons pe_int (pa_cons pe_int (pa_cons pe_int (pa_cons pe_int (pa_cons pe_int (pa_cons pe_int pa_nil))))))) pa_nil))))
      (pss_cons (ps_par (i := 2) (j := 3) (by rfl) sc_l_right.nd rfl rfl (by decide) rfl rfl (pa_cons (pe_c (cal_l_drawn T) hr (by decide) (by rfl) (pa_cons (pv 0) (pa_cons (pv 1) pa_nil))) (pa_cons (pe_c (cal_l_drawn T) hr (by decide) (by rfl) (pa_cons (pv 0) (pa_cons (pv 1) pa_nil))) pa_nil)) (by rfl))
      (pss_cons (ps_asg (pe_c (cal_l_made T) hr (by decide) (by rfl) (pa_cons (pv 0) (pa_cons (pv 1) pa_nil))) (pg_tup (by rfl) (pgs_cons (pg_name (i := 4) sc_l_right.nd rfl (.inl rfl)) (pgs_cons (pg_name (i := 5) sc_l_right.nd rfl (.inl rfl)) pgs_nil))))
      (pss_cons (ps_if (PW.pt (pw_or (pt_not (pt_val (pe_callB (cr_all rfl) (by rfl) T.b_all bt_all (pa_cons (pe_lc (own := [("_law_room", 10)]) (by rfl) sc_l_right.nd (pi_list (pe_lst (pa_cons (pv 2) (pa_cons (pv 3) (pa_cons (pv 4) pa_nil))))) (blkOk_by (N := N_l_right) (sc := defScope s_l_right) (by decide +kernel)) (fun _ _ _ _ _ => (pg_name (i := 10) sc_l_right.nd rfl (.inl rfl))) (fun _ _ _ _ _ => pts_nil) (fun _ _ _ _ _ => (pe_c (cal_is_own T) hr (by decide) (by rfl) (pa_cons (pv 10) pa_nil)))) pa_nil)))) (pw_or1 (pt_cmpR op_neN (pe_c (cal_own_exchanges T) hr (by decide) (by rfl) (pa_cons (pv 4) pa_nil)) (pv 5) (nomark _)))))
        (pss_one (ps_ret pe_bl))
        pss_nil)
      (pss_cons (ps_for PassesOwn.never rfl (pi_list (pe_lst (pa_cons (pe_tup (pa_cons (pv 2) (pa_cons (pv 3) pa_nil))) (pa_cons (pe_tup (pa_cons (pv 2) (pa_cons (pv 4) pa_nil))) (pa_cons (pe_tup (pa_cons (pv 3) (pa_cons (pv 4) pa_nil))) pa_nil))))) (pg_tup (by rfl) (pgs_cons (pg_name (i := 6) sc_l_right.nd rfl (.inl rfl)) (pgs_cons (pg_name (i := 7) sc_l_right.nd rfl (.inl rfl)) pgs_nil)))
        (pss_cons (ps_set (i := 8) sc_l_right.nd rfl (.inr rfl) (pe_c (cal_alike T) hr (by decide) (by rfl) (pa_cons (pv 6) (pa_cons (pv 7) pa_nil))))
        (pss_cons (ps_if (pt_cmpR op_ne (pe_cmpR op_isN (pv 8) pe_non (nomark _)) (pe_cmpR (op_neD hr.units) (pe_c (cal_l_names T) hr (by decide) (by rfl) (pa_cons (pv 6) pa_nil)) (pe_c (cal_l_names T) hr (by decide) (by rfl) (pa_cons (pv 7) pa_nil)) (nomark _)) (nomark _))
          (pss_one (ps_ret pe_bl))
          pss_nil)
        (pss_one (ps_if (pt_cmpR op_notN (pv 8) pe_non (nomark _))
          (pss_cons (ps_if (pt_cmpR (op_neL hr.units) (pe_callB cr_sortedN (by rfl) T.b_sorted bt_sorted (pa_cons (pe_lc (own := [("_law_word_here", 11)]) (by rfl) sc_l_right.nd (pi_list (pe_c (cal_pairs T) hr (by decide) (by rfl) (pa_cons (pv 6) pa_nil))) (blkOk_by (N := N_l_right) (sc := defScope s_l_right) (by decide +kernel)) (fun _ _ _ _ _ => (pg_name (i := 11) sc_l_right.nd rfl (.inl rfl))) (fun _ _ _ _ _ => pts_nil) (fun _ _ _ _ _ => (pe_c (cal_l_led T) hr (by decide) (by rfl) (pa_cons (pv 11) (pa_cons (pv 8) pa_nil))))) pa_nil)) (pe_c (cal_pairs T) hr (by decide) (by rfl) (pa_cons (pv 7) pa_nil)) (nomark _))
            (pss_one (ps_ret pe_bl))
            pss_nil)
          (pss_cons (ps_set (i := 9) sc_l_right.nd rfl (.inl rfl) (pe_callB (cr_sortedD hr.units) (by rfl) T.b_sorted bt_sorted (pa_cons (pe_lc (own := [("_law_kind", 12), ("_law_spots", 13)]) (by rfl) sc_l_right.nd (pi_list (pe_c (cal_fours_kinds T) hr (by decide) (by rfl) (pa_cons (pv 6) pa_nil))) (blkOk_by (N := N_l_right) (sc := defScope s_l_right) (by decide +kernel)) (fun _ _ _ _ _ => (pg_tupK (K' := K) (n := 2) rfl (by rfl) (pgs_cons (pg_name (i := 12) sc_l_right.nd rfl (.inl rfl)) (pgs_cons (pg_name (i := 13) sc_l_right.nd rfl (.inl rfl)) pgs_nil)))) (fun _ _ _ _ _ => pts_nil) (fun _ _ _ _ _ => (pe_tup (pa_cons (pv 12) (pa_cons (pe_callB (r := rSortedN K) cr_sortedN (by rfl) T.b_sorted bt_sorted (pa_cons (pe_lc (own := [("_law_spot", 14)]) (by rfl) sc_l_right.nd (pi_listK (K' := K) rfl (pv 13)) (blkOk_by (N := N_l_right) (sc := csc_l_right) (by decide +kernel)) (fun _ _ _ _ _ => (pg_name (i := 14) sc_l_right.nd rfl (.inl rfl))) (fun _ _ _ _ _ => pts_nil) (fun _ _ _ _ _ => (pe_ix (r := rIxL K) ix_list (pv 8) (pv 14) (fun _ _ => rfl)))) pa_nil)) pa_nil))))) pa_nil)))
          (pss_one (ps_if (pt_cmpR (op_neD hr.units) (pv 9) (pe_c (cal_fours_kinds T) hr (by decide) (by rfl) (pa_cons (pv 7) pa_nil)) (nomark _))
            (pss_one (ps_ret pe_bl))
            pss_nil))))
          pss_nil)))))
      (pss_one (ps_ret pe_bl))))))), ?_⟩
    refine ⟨_, rfl, (by decide : 6 ≤ sizeLine), fun l hl => ?_⟩
    have nlp : l ≠ p := fun e => by rw [e, hpp] at hl; cases hl
    refine ⟨p, l, [2, 4, 6, 8, 8, 10], rfl, hp.same (same_upd hl), upd_same, nlp, by decide, by decide, fun H1 n b1 hp1 hn0 => ?_⟩
    obtain ⟨m, hm, h1, h5⟩ := places_of hn0
    have hn : n ≤ 24 := by omega
    refine ⟨_, rfl, _, rfl, p, n, rfl, hp1, by omega, hn, by omega, fun H2 r1 F1 b2 hp2 hR1 hO1 => ?_⟩
    refine ⟨_, rfl, _, rfl, p, n, rfl, hp2, by omega, hn, by omega, fun H3 r2 F2 b3 hp3 hR2 hO2 => ⟨_, _, rfl, ?_⟩⟩
    have hR1 := hR1.but hp2 b3
    refine ⟨_, rfl, _, rfl, p, n, m, rfl, hp3, hm, h1, h5, fun H4 t r3 F3 b4 hp4 ht hR3 hO3 => ?_⟩
    have hR1 := hR1.but hp3 b4
    have hR2 := hR2.but hp3 b4
    clear b1 b2 b3 b4 hp1 hp2 hp3 hp hpp hl
    refine ⟨t, _, rfl, sqT_new ht, rfl, _, _, rfl, _, _, rfl, rfl, ?_⟩
    refine ⟨_, rfl, _, rfl, _, rfl, (by decide : 3 ≤ sizeLine), fun l2 hl2 => ?_⟩
    have hl3 : (upd H4 l2 (.lst [.ref r1, .ref r2, .ref r3])) l2 = some (.lst ([r1, r2, r3].map V.ref)) := upd_same
    have s4 : Same H4 (upd H4 l2 (.lst [.ref r1, .ref r2, .ref r3])) := same_upd hl2
    refine ⟨l2, rfl, ⟨_, sqL_new hl3⟩, fun D hD => lcGL (enc := V.ref) (fun _ => true) (fun _ y _ => y = .bl true) hD (sqL_new hl3) (small (show 3 ≤ 1000 by decide)) (fun _ _ _ _ h _ => h) ?_ ?_⟩
    · intro r H5 Qn Qs hb s _ k1 k2
      have hr5 : ∃ B, RoomAt K H4 r n B ∧ Ow.Own n B := by
        simp only [List.mem_cons, List.not_mem_nil, or_false] at hb
        rcases hb with rfl | rfl | rfl
        · exact ⟨_, hR1, hO1⟩
        · exact ⟨_, hR2, hO2⟩
        · exact ⟨_, hR3, hO3⟩
      obtain ⟨B, hB, hBO⟩ := hr5
      exact ⟨rfl, _, rfl, r, n, B, rfl, (hB.same s4).same s, hBO, hn, fun H6 s6 => k1 rfl _ _ s6 rfl⟩
    intro H5 ys s5 hy pr
    have ey := Paired.eq_map (f := fun _ => V.bl true) pr
    rw [List.filter_eq_self.mpr fun _ _ => rfl] at ey
    subst ey
    have s45 := s4.trans s5
    refine ⟨D, [true, true, true], rfl, sqL_new hy, _, rfl, ?_⟩
    refine ⟨_, rfl, r3, n, m, F3, rfl, hR3.same s45, hO3, hm, h1, h5, fun H6 s6 => ⟨_, rfl, _, _, rfl, rfl, _, rfl, ite2 (fun e => absurd e (no_ne rfl)) fun _ => ?_⟩⟩
    have s46 := s45.trans s6
    have hR1 := hR1.same s46
    have hR2 := hR2.same s46
    have hR3 := hR3.same s46
    clear s46 s45 s6 s5 s4 hy pr hl3 hl2 ht
    refine ⟨_, rfl, _, rfl, (by decide : 2 ≤ sizeLine), fun t1 ht1 => ⟨_, rfl, _, rfl, (by decide : 2 ≤ sizeLine), fun t2 ht2 => ⟨_, rfl, _, rfl, (by decide : 2 ≤ sizeLine), fun t3 ht3 => ⟨(by decide : 3 ≤ sizeLine), fun l4 hl4 => ?_⟩⟩⟩⟩
    have hl5 : (upd (upd (upd (upd H6 t1 (.tup [.ref r1, .ref r2])) t2 (.tup [.ref r1, .ref r3])) t3 (.tup [.ref r2, .ref r3])) l4 (.lst [.ref t1, .ref t2, .ref t3])) l4 = some (.lst [.ref t1, .ref t2, .ref t3]) := upd_same
    have s67 : Same H6 (upd (upd (upd (upd H6 t1 (.tup [.ref r1, .ref r2])) t2 (.tup [.ref r1, .ref r3])) t3 (.tup [.ref r2, .ref r3])) l4 (.lst [.ref t1, .ref t2, .ref t3])) := (same_upd ht1).trans ((same_upd ht2).trans ((same_upd ht3).trans (same_upd hl4)))
    obtain ⟨H7, eH7⟩ : ∃ H7, H7 = upd (upd (upd (upd H6 t1 (.tup [.ref r1, .ref r2])) t2 (.tup [.ref r1, .ref r3])) t3 (.tup [.ref r2, .ref r3])) l4 (.lst [.ref t1, .ref t2, .ref t3]) := ⟨_, rfl⟩
    rw [← eH7] at hl5 s67
    have g1 : H7 t1 = some (.tup [.ref r1, .ref r2]) := by rw [eH7]; exact (same_upd hl4) _ _ ((same_upd ht3) _ _ ((same_upd ht2) _ _ upd_same))
    have g2 : H7 t2 = some (.tup [.ref r1, .ref r3]) := by rw [eH7]; exact (same_upd hl4) _ _ ((same_upd ht3) _ _ upd_same)
    have g3 : H7 t3 = some (.tup [.ref r2, .ref r3]) := by rw [eH7]; exact (same_upd hl4) _ _ upd_same
    have hR1 := hR1.same s67
    have hR2 := hR2.same s67
    have hR3 := hR3.same s67
    rw [← eH7]
    refine ⟨l4, rfl, ⟨_, sqL_new hl5⟩, for_list (K := K) (a := l4) (xs := [.ref t1, .ref t2, .ref t3]) (fun i σ H' => Same H7 H' ∧ ∃ y6 y7 y8 y9, σ = [some (.ref p), some (vN n), some (.ref r1), some (.ref r2), some (.ref r3), some (vN (Ow.dueOf m (Ow.np F3))), y6, y7, y8, y9, none, none, none, none, none]) ⟨Same.refl _, none, none, none, none, rfl⟩ (fun i σ H' _ h => sqL_new (h.1 _ _ hl5)) ?_ ?_⟩
    · rintro i x σ0 Hx hx ⟨s7x, y6, y7, y8, y9, rfl⟩
      have hpair : ∃ t a b A B, x = .ref t ∧ H7 t = some (.tup [.ref a, .ref b]) ∧ RoomAt K H7 a n A ∧ Ow.Own n A ∧ RoomAt K H7 b n B ∧ Ow.Own n B := by
        have hm := List.mem_of_getElem? hx
        simp only [List.mem_cons, List.not_mem_nil, or_false] at hm
        rcases hm with rfl | rfl | rfl
        · exact ⟨_, _, _, _, _, rfl, g1, hR1, hO1, hR2, hO2⟩
        · exact ⟨_, _, _, _, _, rfl, g2, hR1, hO1, hR3, hO3⟩
        · exact ⟨_, _, _, _, _, rfl, g3, hR2, hO2, hR3, hO3⟩
      obtain ⟨t, a, b, A, B, rfl, gt, hA, oA, hB, oB⟩ := hpair
      have hAx := hA.same s7x
      have hBx := hB.same s7x
      refine ⟨t, _, rfl, sqT_new (s7x _ _ gt), rfl, _, _, rfl, _, _, rfl, rfl, ?_⟩
      refine ⟨_, rfl, _, rfl, a, b, n, m, A, B, rfl, hAx, hBx, oA, oB, hm, h1, h5, fun hne H8 s8 => ?_, fun heq H8 q8 σ s8 hq8 hseq hled => ?_⟩
      · have hA8 := hAx.same s8
        have hB8 := hBx.same s8
        refine ⟨_, rfl, rfl, _, rfl, a, n, m, A, rfl, hA8, oA, hm, h1, h5, fun H9 p1 l1 s9 g1 g2 => ⟨_, rfl, b, n, m, B, rfl, hB8.same s9, oB, hm, h1, h5, fun H10 p2 l2 s10 g3 g4 => ⟨_, _, dp_names (s10 _ _ g1) (s10 _ _ g2), dp_names g3 g4, shaped_names _, shaped_names _, rfl, _, rfl, ite2 (fun e => ?_) fun _ => ?_⟩⟩⟩
        · have e' : V.bl (decide (V.non = V.non)) = V.bl (!PyData.eqv (namesD A) (namesD B)) := by rw [names_ne hne]; rfl
          exact absurd e (no_ne e')
        · exact ⟨_, rfl, rfl, _, rfl, s7x.trans (s8.trans (s9.trans s10)), _, _, _, _, rfl⟩
      · have hA8 := hAx.same s8
        have hB8 := hBx.same s8
        refine ⟨_, rfl, rfl, _, rfl, a, n, m, A, rfl, hA8, oA, hm, h1, h5, fun H9 p1 l1 s9 g1 g2 => ⟨_, rfl, b, n, m, B, rfl, hB8.same s9, oB, hm, h1, h5, fun H10 p2 l2 s10 g3 g4 => ⟨_, _, dp_names (s10 _ _ g1) (s10 _ _ g2), dp_names g3 g4, shaped_names _, shaped_names _, rfl, _, rfl, ite2 (fun e => ?_) fun _ => ?_⟩⟩⟩
        · have e' : V.bl (decide (V.ref q8 = V.non)) = V.bl (!PyData.eqv (namesD A) (namesD B)) := by rw [names_same oA oB heq]; rfl
          exact absurd e (no_ne e')
        have s810 := s9.trans s10
        have hσl : σ.length ≤ 24 := by rw [hseq.len]; exact hn
        have hσb : ∀ x ∈ σ, x ≤ 1000 := fun x hx => by
          have := List.mem_range.mp (hseq.mem_iff.mp hx)
          omega
        refine ⟨_, rfl, rfl, _, rfl, ?_⟩
        have hPl : (Ow.pairsOf A).length ≤ 24 := by rw [Ow.pairsOf_length]; have := Ow.heavy_length A; have := oA.half; omega
        refine ⟨_, rfl, a, n, A, rfl, hA8.same s810, oA, hn, fun H11 lp s11 hlp => ⟨lp, rfl, ⟨_, sqL_new hlp⟩, fun D hD => lcGL (fun _ => true) (fun b y _ => y = vN (Ow.led σ b)) hD (sqL_new hlp) (small (by omega)) pure_stays ?_ ?_⟩⟩
        · intro c H12 Qn Qs hb s _ k1 k2
          exact ⟨rfl, _, rfl, _, rfl, q8, c, σ, rfl, sqL_new (s _ _ (s11 _ _ (s810 _ _ hq8))), hσl, hσb, fun H13 s13 => k1 rfl _ _ s13 rfl⟩
        intro H12 ys s12 hy pr
        have ey := Paired.eq_map pr
        rw [List.filter_eq_self.mpr fun _ _ => rfl] at ey
        subst ey
        refine ⟨D, (Ow.pairsOf A).map (Ow.led σ), rfl, sqL_new (by rw [hy, vL_map]), by rw [List.length_map]; omega, fun ls hls => ?_⟩
        have s8s : Same H8 (upd H12 ls (.lst (vL (Ow.upN ((Ow.pairsOf A).map (Ow.led σ)))))) := s810.trans (s11.trans (s12.trans (same_upd hls)))
        refine ⟨_, rfl, b, n, B, rfl, hB8.same s8s, oB, hn, fun H13 lf s13 hlf => ⟨ls, lf, _, _, rfl, rfl, s13 _ _ upd_same, hlf, _, rfl, ite2 (fun e => absurd e (no_ne (Ow.pairs_sorted_led oA oB hn hseq hled))) fun _ => ?_⟩⟩
        have s813 : Same H8 H13 := s8s.trans s13
        refine ⟨_, rfl, a, n, m, A, rfl, hA8.same s813, oA, hm, h1, h5, fun H14 lk s14 hlk => ?_⟩
        have s814 := s813.trans s14
        rcases hlk with ⟨hz, hlk⟩ | ⟨hz, t9, s9l, hlk, ht9, hs9⟩
        · refine ⟨lk, rfl, ⟨[], sqL_new hlk⟩, fun D hD => lcGW walk_list ([] : List Nat) (fun _ => true) (fun _ y _ => y = .non) rfl hD (fun H s => sqL_new (s _ _ hlk)) (small (by decide)) (fun _ _ _ _ h _ => h) ?_ ?_⟩
          · rintro i b x H3 H4 Qn Qs hb
            cases hb
          · intro H15 ys s15 hy pr
            cases pr
            refine ⟨D, [], [], rfl, sqL_new hy, .nil, (fun d hd => nomatch hd), (.inr fun d hd => nomatch hd), (fun d hd => nomatch hd), fun zs p9 hz2 hp9 => ?_⟩
            obtain rfl := List.perm_nil.mp hz2
            obtain ⟨Hz, eHz⟩ : ∃ Hz, Hz = upd H15 p9 (.lst []) := ⟨_, rfl⟩
            have s8z : Same H8 Hz := by rw [eHz]; exact s814.trans (s15.trans (same_upd hp9))
            rw [← eHz]
            have hlotB : LotsAt Hz p9 B := by rw [eHz]; exact .inl ⟨(Ow.names_eq oA oB heq).mp hz, upd_same⟩
            refine ⟨_, rfl, _, rfl, b, n, m, B, rfl, hB8.same s8z, oB, hm, h1, h5, fun Hy lk2 sy hlk2 => ⟨_, _, dp_lots (hlotB.same sy), dp_lots hlk2, shaped_lots _, shaped_lots _, _, rfl, ite2 (fun e => ?_) fun _ => ?_⟩⟩
            · rw [lots_self] at e
              cases e
            · exact ⟨s7x.trans (s8.trans (s8z.trans sy)), _, _, _, _, rfl⟩
        · have hz' : Ow.heavyOf B ≠ [] := fun c => hz ((Ow.names_eq oA oB heq).mpr c)
          have hU := Ow.union_heavy_lt oA
          have hUl := Ow.union_led oA oB hn hseq hled
          have hsp := Ow.spots_led hseq hn hU
          obtain ⟨U, eU⟩ : ∃ U, U = Ow.union (Ow.heavyOf A) := ⟨_, rfl⟩
          rw [← eU] at hU hUl hsp hs9
          have hsl : (Ow.spots U).length ≤ 24 := Nat.le_trans (List.length_filter_le _ _) (by rw [List.length_range]; exact Nat.le_refl _)
          have hUn : ∀ i ∈ Ow.spots U, i < n := fun i hi => Classical.byContradiction fun c => by
            have h2 := (Ow.mem_spots.mp hi).2
            rw [Ow.off_lt hU (by omega)] at h2
            cases h2
          refine ⟨lk, rfl, ⟨_, sqL_new hlk⟩, fun D hD => lcGW walk_list ([()] : List Unit) (fun _ => true) (fun _ y H => ∃ tt ss, y = .ref tt ∧ tt ≠ D ∧ ss ≠ D ∧ H tt = some (.tup [.str "e8", .ref ss]) ∧ H ss = some (.lst (vL (Ow.spots (Ow.led σ U))))) rfl hD (fun H s => sqL_new (s _ _ hlk)) (small (by decide)) (fun _ y _ _ h bt => by obtain ⟨tt, ss, k1, k2, k3, k4, k5⟩ := h; exact ⟨tt, ss, k1, k2, k3, bt _ _ k4 k2, bt _ _ k5 k3⟩) ?_ ?_⟩
          · rintro i c x H15 H16 Qn Qs hb s15 ⟨rfl, hx⟩ ⟨acc, hacc⟩ k1 k2
            have hi : i < 1 := (List.getElem?_eq_some_iff.mp hx).1
            obtain rfl : i = 0 := by omega
            obtain rfl : x = .ref t9 := (Option.some.inj hx).symm
            refine ⟨t9, _, rfl, sqT_new (s15 _ _ ht9), rfl, _, _, rfl, _, _, rfl, rfl, rfl, ?_⟩
            have hs15 := s15 _ _ hs9
            refine ⟨_, rfl, _, rfl, s9l, rfl, ⟨_, sqL_new hs15⟩, fun D2 hD2 => lcGL (fun _ => true) (fun b y _ => y = vN (σ.getD b 0)) hD2 (sqL_new hs15) (small (by omega)) pure_stays ?_ ?_⟩
            · intro c H17 Qn Qs hb s _ k1 k2
              have hcn := hUn c hb
              exact ⟨rfl, _, rfl, _, rfl, q8, _, _, _, rfl, rfl, sqL_new (s _ _ (s15 _ _ (s814 _ _ hq8))), atI_at (by rw [hseq.len]; exact hcn), k1 rfl _ _ (Same.refl _) rfl⟩
            · intro H17 zs s17 hz17 pz
              have ez := Paired.eq_map pz
              rw [List.filter_eq_self.mpr fun _ _ => rfl] at ez
              subst ez
              refine ⟨D2, (Ow.spots U).map fun b => σ.getD b 0, rfl, sqL_new (by rw [hz17, vL_map]), by rw [List.length_map]; omega, fun ss hss => ⟨(by decide : 2 ≤ sizeLine), fun tt htt => ?_⟩⟩
              have hDs := s17 _ _ hacc
              refine k1 rfl _ _ (s17.trans ((same_upd hss).trans (same_upd htt))) ⟨tt, ss, rfl, fun e => ?_, fun e => ?_, upd_same, ?_⟩
              · rw [e, (same_upd hss) _ _ hDs] at htt
                cases htt
              · rw [e, hDs] at hss
                cases hss
              · rw [← hsp]
                exact (same_upd htt) _ _ upd_same
          · intro H15 ys s15 hy pr
            rw [List.filter_eq_self.mpr fun _ _ => rfl] at pr
            obtain ⟨y, rfl, tt, ss, rfl, _, _, k4, k5⟩ : ∃ y, ys = [y] ∧ ∃ tt ss, y = V.ref tt ∧ tt ≠ D ∧ ss ≠ D ∧ H15 tt = some (.tup [.str "e8", .ref ss]) ∧ H15 ss = some (.lst (vL (Ow.spots (Ow.led σ U)))) := by
              cases pr with
              | cons h t => cases t; exact ⟨_, rfl, h⟩
            refine ⟨D, [.ref tt], [lotD (Ow.spots (Ow.led σ U))], rfl, sqL_new hy, .cons (dp_lot k4 k5) .nil, ?_, .inl fun d hd => ⟨_, _, List.mem_singleton.mp hd⟩, ?_, fun zs p9 hz2 hp9 => ?_⟩
            · intro d hd d' hd'
              rw [List.mem_singleton.mp hd, List.mem_singleton.mp hd']
              simp only [PySem.W.alike, PySem.W.alikeAll, listD_alike]
              rfl
            · intro d hd
              rw [List.mem_singleton.mp hd]
              exact Nat.le_trans (lotD_depth _) (by decide)
            obtain rfl := List.perm_singleton.mp hz2
            obtain ⟨Hz, eHz⟩ : ∃ Hz, Hz = upd H15 p9 (.lst [.ref tt]) := ⟨_, rfl⟩
            have s8z : Same H8 Hz := by rw [eHz]; exact s814.trans (s15.trans (same_upd hp9))
            rw [← eHz]
            have hlotB : LotsAt Hz p9 B := by rw [eHz]; exact .inr ⟨hz', tt, ss, upd_same, (same_upd hp9) _ _ k4, by rw [← hUl]; exact (same_upd hp9) _ _ k5⟩
            refine ⟨_, rfl, _, rfl, b, n, m, B, rfl, hB8.same s8z, oB, hm, h1, h5, fun Hy lk2 sy hlk2 => ⟨_, _, dp_lots (hlotB.same sy), dp_lots hlk2, shaped_lots _, shaped_lots _, _, rfl, ite2 (fun e => ?_) fun _ => ?_⟩⟩
            · rw [lots_self] at e
              cases e
            · exact ⟨s7x.trans (s8.trans (s8z.trans sy)), _, _, _, _, rfl⟩
    · rintro σ0 Hx ⟨s7x, y6, y7, y8, y9, rfl⟩
      exact q Hx
abbrev N_law : List Str := ["_law_script"]
theorem sc_law : FnScope N_law ["_law_script"] (defScope s_law) := ⟨rfl, rfl, rfl, by decide +kernel, rfl, by decide +kernel, by decide +kernel⟩
def sp_law (K : PySem.W.Frag) : Sp := fun vs H Q _ => ∃ (a : Addr) (ns : List Int), vs = [.ref a] ∧ SqL K H a (ns.map V.int) ∧ ns.length ≤ 63 ∧ ∀ H', Q (.bl true) H'
theorem body_law (T : Tx K mg) : BodyOk P w K mg base "law" s_law N_law (He.ga K "law") 12 (sp_law K) := by
  intro cdv A outer s H vs Q E hr h
  obtain ⟨a, ns, rfl, hS, _, q⟩ := h
  refine ⟨_, (pss_one (ps_ret (pe_c (cal_l_right T) hr (by decide) (by rfl) (pa_cons (pe_c (cal_l_pot T) hr (by decide) (by rfl) (pa_cons (pv 0) (pa_cons pe_int pa_nil))) pa_nil)))), ?_⟩
  exact ⟨_, rfl, a, ns, rfl, hS, fun H1 p s1 hp => ⟨p, rfl, hp, q⟩⟩
theorem ok_law {fd : FuncData} (T : Tx K mg) (F : FunD K "law" "law" (defArgs s_law) (defBody s_law) (defScope s_law) [] [] (He.ga K "law") fd) : FnOk P w K mg base CX0 13 (He.ga K "law") fd ["_law_script"] (sp_law K) :=
  fnD F sc_law (fun vs H Q E h => by obtain ⟨a, ns, rfl, _⟩ := h; rfl) (body_law T)
end
end Oc
set_option Elab.async false
set_option linter.all false
set_option maxRecDepth 100000
set_option maxHeartbeats 0
/-! the facts that the head tells beyond the names -/
namespace Oc
open PySem PySem.Spec PyProof.Rows L2
/-- what isinstance asks of a class, told -/
def isB (K : PySem.W.Frag) (x : Str) : Bool := He.eqO (PySem.W.findIn K (.ref (CA K x)) "__class__") (some (some (.builtin "object.__class__"))) && (He.eqO (PySem.W.specialIn K (.builtin "object.__class__") "__get__") (some (some (.builtin "getset_descriptor.__get__"))) &&
  (decide (PySem.W.takesIn K (.builtin "object.__class__") = some true) && decide (PySem.W.mroIn K (CA K x) (.type "object") = some true)))
theorem insTy_ok {K : PySem.W.Frag} {x : Str} (h : isB K x = true) : InsTy K (CA K x) := by
  unfold isB at h
  obtain ⟨h1, h⟩ := He.ba h
  obtain ⟨h2, h⟩ := He.ba h
  obtain ⟨h3, h4⟩ := He.ba h
  exact ⟨He.eqO_ok h1, He.eqO_ok h2, of_decide_eq_true h3, of_decide_eq_true h4⟩
def ex (K : PySem.W.Frag) : Bool := He.tupB K "HALVES" (halves.map He.Dv.int) && (isB K "Told" && (isB K "Room" && decide (PySem.W.kitOne K (.type "int") (.ref (CA K "Told")) = some false)))
section
variable {K : PySem.W.Frag}
theorem ex_halves (h : ex K = true) : He.tupB K "HALVES" (halves.map He.Dv.int) = true := (He.ba h).1
theorem ex_told (h : ex K = true) : isB K "Told" = true := (He.ba (He.ba h).2).1
theorem ex_room (h : ex K = true) : isB K "Room" = true := (He.ba (He.ba (He.ba h).2).2).1
theorem ex_int (h : ex K = true) : decide (PySem.W.kitOne K (.type "int") (.ref (CA K "Told")) = some false) = true := (He.ba (He.ba (He.ba h).2).2).2
theorem halves_ok (h : He.tupB K "HALVES" (halves.map He.Dv.int) = true) (H : Hp) : SqT K H (He.ga K "HALVES") (halves.map V.int) := by
  have := He.tupB_ok h H
  rw [List.map_map] at this
  exact this
theorem defAt {mg : Str → Option Value} {x : Str} {st : Stmt} (h : ∃ fd, FunD K x x (defArgs st) (defBody st) (defScope st) [] [] (He.ga K x) fd) (g : mg x = some (.ref (He.ga K x))) : DefAt K mg x st := by
  obtain ⟨fd, F⟩ := h
  exact ⟨fd, F, g⟩
theorem methAt {C m q : Str} {st : Stmt} (h : ∃ fd, FunD K m q (defArgs st) (defBody st) (defScope st) [] [] (He.ma K (He.ga K C) m) fd) : MethAt K C m q st := h
end
end Oc
/-! the head: facts by names, the run -/
namespace Oc
open PySem PySem.Spec PyProof.Rows L2
def d_is_integer : He.DefD := ⟨("is_integer", none), "is_integer", "is_integer", defArgs s_is_integer, defBody s_is_integer, defScope s_is_integer, [], []⟩
def d_is_count : He.DefD := ⟨("is_count", none), "is_count", "is_count", defArgs s_is_count, defBody s_is_count, defScope s_is_count, [], []⟩
def d_is_list : He.DefD := ⟨("is_list", none), "is_list", "is_list", defArgs s_is_list, defBody s_is_list, defScope s_is_list, [], []⟩
def d_is_places : He.DefD := ⟨("is_places", none), "is_places", "is_places", defArgs s_is_places, defBody s_is_places, defScope s_is_places, [], []⟩
def d_want_places : He.DefD := ⟨("want_places", none), "want_places", "want_places", defArgs s_want_places, defBody s_want_places, defScope s_want_places, [], []⟩
def d_want_at_most : He.DefD := ⟨("want_at_most", none), "want_at_most", "want_at_most", defArgs s_want_at_most, defBody s_want_at_most, defScope s_want_at_most, [], []⟩
def d_left_of : He.DefD := ⟨("left_of", none), "left_of", "left_of", defArgs s_left_of, defBody s_left_of, defScope s_left_of, [], []⟩
def d_with_word : He.DefD := ⟨("with_word", none), "with_word", "with_word", defArgs s_with_word, defBody s_with_word, defScope s_with_word, [], []⟩
def d_plain_basis : He.DefD := ⟨("plain_basis", none), "plain_basis", "plain_basis", defArgs s_plain_basis, defBody s_plain_basis, defScope s_plain_basis, [], []⟩
def d_all_words : He.DefD := ⟨("all_words", none), "all_words", "all_words", defArgs s_all_words, defBody s_all_words, defScope s_all_words, [], []⟩
def d_Told_init : He.DefD := ⟨("Told", some "__init__"), "__init__", "Told.__init__", defArgs s_Told_init, defBody s_Told_init, defScope s_Told_init, [], []⟩
def d_told_room : He.DefD := ⟨("told_room", none), "told_room", "told_room", defArgs s_told_room, defBody s_told_room, defScope s_told_room, [], []⟩
def d_Room_init : He.DefD := ⟨("Room", some "__init__"), "__init__", "Room.__init__", defArgs s_Room_init, defBody s_Room_init, defScope s_Room_init, [], []⟩
def d_room_by : He.DefD := ⟨("room_by", none), "room_by", "room_by", defArgs s_room_by, defBody s_room_by, defScope s_room_by, [], []⟩
def d_want_room : He.DefD := ⟨("want_room", none), "want_room", "want_room", defArgs s_want_room, defBody s_want_room, defScope s_want_room, [], []⟩
def d_want_word : He.DefD := ⟨("want_word", none), "want_word", "want_word", defArgs s_want_word, defBody s_want_word, defScope s_want_word, [], []⟩
def d_weight_of : He.DefD := ⟨("weight_of", none), "weight_of", "weight_of", defArgs s_weight_of, defBody s_weight_of, defScope s_weight_of, [], []⟩
def d_is_odd : He.DefD := ⟨("is_odd", none), "is_odd", "is_odd", defArgs s_is_odd, defBody s_is_odd, defScope s_is_odd, [], []⟩
def d_spots_of : He.DefD := ⟨("spots_of", none), "spots_of", "spots_of", defArgs s_spots_of, defBody s_spots_of, defScope s_spots_of, [], []⟩
def d_all_on : He.DefD := ⟨("all_on", none), "all_on", "all_on", defArgs s_all_on, defBody s_all_on, defScope s_all_on, [], []⟩
def d_contrary_basis : He.DefD := ⟨("contrary_basis", none), "contrary_basis", "contrary_basis", defArgs s_contrary_basis, defBody s_contrary_basis, defScope s_contrary_basis, [], []⟩
def d_odd_two : He.DefD := ⟨("odd_two", none), "odd_two", "odd_two", defArgs s_odd_two, defBody s_odd_two, defScope s_odd_two, [], []⟩
def d_are_still : He.DefD := ⟨("are_still", none), "are_still", "are_still", defArgs s_are_still, defBody s_are_still, defScope s_are_still, [], []⟩
def d_missing_word : He.DefD := ⟨("missing_word", none), "missing_word", "missing_word", defArgs s_missing_word, defBody s_missing_word, defScope s_missing_word, [], []⟩
def d_is_own_room : He.DefD := ⟨("is_own_room", none), "is_own_room", "is_own_room", defArgs s_is_own_room, defBody s_is_own_room, defScope s_is_own_room, [], []⟩
def d_want_still : He.DefD := ⟨("want_still", none), "want_still", "want_still", defArgs s_want_still, defBody s_want_still, defScope s_want_still, [], []⟩
def d_is_own : He.DefD := ⟨("is_own", none), "is_own", "is_own", defArgs s_is_own, defBody s_is_own, defScope s_is_own, [], []⟩
def d_want_alike : He.DefD := ⟨("want_alike", none), "want_alike", "want_alike", defArgs s_want_alike, defBody s_want_alike, defScope s_want_alike, [], []⟩
def d_below : He.DefD := ⟨("below", none), "below", "below", defArgs s_below, defBody s_below, defScope s_below, [], []⟩
def d_shortened_basis : He.DefD := ⟨("shortened_basis", none), "shortened_basis", "shortened_basis", defArgs s_shortened_basis, defBody s_shortened_basis, defScope s_shortened_basis, [], []⟩
def d_masks_of : He.DefD := ⟨("masks_of", none), "masks_of", "masks_of", defArgs s_masks_of, defBody s_masks_of, defScope s_masks_of, [], []⟩
def d_parts_of : He.DefD := ⟨("parts_of", none), "parts_of", "parts_of", defArgs s_parts_of, defBody s_parts_of, defScope s_parts_of, [], []⟩
def d_with_way : He.DefD := ⟨("with_way", none), "with_way", "with_way", defArgs s_with_way, defBody s_with_way, defScope s_with_way, [], []⟩
def d_small_basis : He.DefD := ⟨("small_basis", none), "small_basis", "small_basis", defArgs s_small_basis, defBody s_small_basis, defScope s_small_basis, [], []⟩
def d_light_basis : He.DefD := ⟨("light_basis", none), "light_basis", "light_basis", defArgs s_light_basis, defBody s_light_basis, defScope s_light_basis, [], []⟩
def d_Search_init : He.DefD := ⟨("Search", some "__init__"), "__init__", "Search.__init__", defArgs s_Search_init, defBody s_Search_init, defScope s_Search_init, [], []⟩
def d_Search_steps : He.DefD := ⟨("Search", some "steps"), "steps", "Search.steps", defArgs s_Search_steps, defBody s_Search_steps, defScope s_Search_steps, [], []⟩
def d_Search_ended : He.DefD := ⟨("Search", some "ended"), "ended", "Search.ended", defArgs s_Search_ended, defBody s_Search_ended, defScope s_Search_ended, [], []⟩
def d_ways_by : He.DefD := ⟨("ways_by", none), "ways_by", "ways_by", defArgs s_ways_by, defBody s_ways_by, defScope s_ways_by, [], []⟩
def d_marks_of : He.DefD := ⟨("marks_of", none), "marks_of", "marks_of", defArgs s_marks_of, defBody s_marks_of, defScope s_marks_of, [], []⟩
def d_leading : He.DefD := ⟨("leading", none), "leading", "leading", defArgs s_leading, defBody s_leading, defScope s_leading, [], []⟩
def d_factorial : He.DefD := ⟨("factorial", none), "factorial", "factorial", defArgs s_factorial, defBody s_factorial, defScope s_factorial, [], []⟩
def d_exchanges_of : He.DefD := ⟨("exchanges_of", none), "exchanges_of", "exchanges_of", defArgs s_exchanges_of, defBody s_exchanges_of, defScope s_exchanges_of, [], []⟩
def d_alike : He.DefD := ⟨("alike", none), "alike", "alike", defArgs s_alike, defBody s_alike, defScope s_alike, [], []⟩
def d_own_exchanges : He.DefD := ⟨("own_exchanges", none), "own_exchanges", "own_exchanges", defArgs s_own_exchanges, defBody s_own_exchanges, defScope s_own_exchanges, [], []⟩
def d_with_all : He.DefD := ⟨("with_all", none), "with_all", "with_all", defArgs s_with_all, defBody s_with_all, defScope s_with_all, [], []⟩
def d_filled_basis : He.DefD := ⟨("filled_basis", none), "filled_basis", "filled_basis", defArgs s_filled_basis, defBody s_filled_basis, defScope s_filled_basis, [], []⟩
def d_filled : He.DefD := ⟨("filled", none), "filled", "filled", defArgs s_filled, defBody s_filled, defScope s_filled, [], []⟩
def d_pairs_of : He.DefD := ⟨("pairs_of", none), "pairs_of", "pairs_of", defArgs s_pairs_of, defBody s_pairs_of, defScope s_pairs_of, [], []⟩
def d_without_pairs : He.DefD := ⟨("without_pairs", none), "without_pairs", "without_pairs", defArgs s_without_pairs, defBody s_without_pairs, defScope s_without_pairs, [], []⟩
def d_kind_name : He.DefD := ⟨("kind_name", none), "kind_name", "kind_name", defArgs s_kind_name, defBody s_kind_name, defScope s_kind_name, [], []⟩
def d_lots_of : He.DefD := ⟨("lots_of", none), "lots_of", "lots_of", defArgs s_lots_of, defBody s_lots_of, defScope s_lots_of, [], []⟩
def d_pairs : He.DefD := ⟨("pairs", none), "pairs", "pairs", defArgs s_pairs, defBody s_pairs, defScope s_pairs, [], []⟩
def d_fours_kinds : He.DefD := ⟨("fours_kinds", none), "fours_kinds", "fours_kinds", defArgs s_fours_kinds, defBody s_fours_kinds, defScope s_fours_kinds, [], []⟩
def d_l_pot : He.DefD := ⟨("_law_pot", none), "_law_pot", "_law_pot", defArgs s_l_pot, defBody s_l_pot, defScope s_l_pot, [], []⟩
def d_l_draw : He.DefD := ⟨("_law_draw", none), "_law_draw", "_law_draw", defArgs s_l_draw, defBody s_l_draw, defScope s_l_draw, [], []⟩
def d_l_pick : He.DefD := ⟨("_law_pick", none), "_law_pick", "_law_pick", defArgs s_l_pick, defBody s_l_pick, defScope s_l_pick, [], []⟩
def d_l_weight : He.DefD := ⟨("_law_weight", none), "_law_weight", "_law_weight", defArgs s_l_weight, defBody s_l_weight, defScope s_l_weight, [], []⟩
def d_l_word : He.DefD := ⟨("_law_word", none), "_law_word", "_law_word", defArgs s_l_word, defBody s_l_word, defScope s_l_word, [], []⟩
def d_l_led : He.DefD := ⟨("_law_led", none), "_law_led", "_law_led", defArgs s_l_led, defBody s_l_led, defScope s_l_led, [], []⟩
def d_l_sequence : He.DefD := ⟨("_law_sequence", none), "_law_sequence", "_law_sequence", defArgs s_l_sequence, defBody s_l_sequence, defScope s_l_sequence, [], []⟩
def d_l_drawn : He.DefD := ⟨("_law_drawn", none), "_law_drawn", "_law_drawn", defArgs s_l_drawn, defBody s_l_drawn, defScope s_l_drawn, [], []⟩
def d_l_names : He.DefD := ⟨("_law_names", none), "_law_names", "_law_names", defArgs s_l_names, defBody s_l_names, defScope s_l_names, [], []⟩
def d_l_made : He.DefD := ⟨("_law_made", none), "_law_made", "_law_made", defArgs s_l_made, defBody s_l_made, defScope s_l_made, [], []⟩
def d_l_right : He.DefD := ⟨("_law_right", none), "_law_right", "_law_right", defArgs s_l_right, defBody s_l_right, defScope s_l_right, [], []⟩
def d_law : He.DefD := ⟨("law", none), "law", "law", defArgs s_law, defBody s_law, defScope s_law, [], []⟩
def fn : List He.DefD := [d_is_integer, d_is_count, d_is_list, d_is_places, d_want_places, d_want_at_most, d_left_of, d_with_word, d_plain_basis, d_all_words, d_Told_init, d_told_room, d_Room_init, d_room_by, d_want_room, d_want_word, d_weight_of, d_is_odd, d_spots_of, d_all_on, d_contrary_basis, d_odd_two, d_are_still, d_missing_word, d_is_own_room, d_want_still, d_is_own, d_want_alike, d_below, d_shortened_basis, d_masks_of, d_parts_of, d_with_way, d_small_basis, d_light_basis, d_Search_init, d_Search_steps, d_Search_ended, d_ways_by, d_marks_of, d_leading, d_factorial, d_exchanges_of, d_alike, d_own_exchanges, d_with_all, d_filled_basis, d_filled, d_pairs_of, d_without_pairs, d_kind_name, d_lots_of, d_pairs, d_fours_kinds, d_l_pot, d_l_draw, d_l_pick, d_l_weight, d_l_word, d_l_led, d_l_sequence, d_l_drawn, d_l_names, d_l_made, d_l_right, d_law]
def fa0 : List He.Fa := [.glo "is_integer", .glo "is_count", .glo "is_list", .glo "is_places", .glo "want_places", .glo "want_at_most", .glo "left_of", .glo "with_word", .glo "plain_basis", .glo "all_words", .glo "told_room", .glo "room_by", .glo "want_room", .glo "want_word", .glo "weight_of", .glo "is_odd", .glo "spots_of", .glo "all_on", .glo "contrary_basis", .glo "odd_two", .glo "are_still", .glo "missing_word", .glo "is_own_room", .glo "want_still", .glo "is_own", .glo "want_alike", .glo "below", .glo "shortened_basis", .glo "masks_of", .glo "parts_of"]
def fa1 : List He.Fa := [.glo "with_way", .glo "small_basis", .glo "light_basis", .glo "ways_by", .glo "marks_of", .glo "leading", .glo "factorial", .glo "exchanges_of", .glo "alike", .glo "own_exchanges", .glo "with_all", .glo "filled_basis", .glo "filled", .glo "pairs_of", .glo "without_pairs", .glo "kind_name", .glo "lots_of", .glo "pairs", .glo "fours_kinds", .glo "_law_pot", .glo "_law_draw", .glo "_law_pick", .glo "_law_weight", .glo "_law_word", .glo "_law_led", .glo "_law_sequence", .glo "_law_drawn", .glo "_law_names", .glo "_law_made", .glo "_law_right"]
def fa2 : List He.Fa := [.glo "law", .glo "Told", .cls "Told", .mkr "Told", .noat "Told" "told_places", .noat "Told" "told_basis", .glo "Room", .cls "Room", .mkr "Room", .noat "Room" "own_places", .noat "Room" "own_basis", .glo "Search", .cls "Search", .mkr "Search", .noat "Search" "own_goals", .noat "Search" "own_some", .meth "Search" "steps", .meth "Search" "ended", .int "MOST_PLACES_basics" 24, .int "MOST_WORDS" 48, .int "MOST_PLACES_alike" 12, .int "FOUR" 4, .glo "HALVES", .free "abs", .free "all", .free "bool", .free "dict", .free "divmod", .free "enumerate", .free "int"]
def fa3 : List He.Fa := [.free "isinstance", .free "len", .free "list", .free "max", .free "min", .free "range", .free "set", .free "sorted", .free "sum", .free "tuple", .free "zip"]
def fa : List He.Fa := fa0 ++ (fa1 ++ (fa2 ++ (fa3)))
def loose0 : List Str := ["WordError", "StateError", "LimitError", "InvalidPlaces", "InvalidRoom", "InvalidWord", "InvalidWords", "UnlikePlaces", "NotStill", "TooMany", "MOST_PLACES_basics", "is_integer", "is_count", "is_list", "is_places", "want_places", "want_at_most", "MOST_WORDS", "MOST_DIMENSION", "left_of", "with_word", "plain_basis", "all_words", "Told", "told_room", "Room", "room_by", "want_room", "want_word", "HALVES"]
def loose1 : List Str := ["weight_of", "is_odd", "spots_of", "all_on", "contrary_basis", "odd_two", "are_still", "missing_word", "is_own_room", "want_still", "is_own", "want_alike", "below", "shortened_basis", "masks_of", "parts_of", "MOST_PLACES_alike", "with_way", "small_basis", "light_basis", "Search", "ways_by", "marks_of", "leading", "factorial", "exchanges_of", "alike", "own_exchanges", "with_all", "filled_basis"]
def loose2 : List Str := ["filled", "FOUR", "pairs_of", "without_pairs", "kind_name", "lots_of", "pairs", "fours_kinds", "_law_pot", "_law_draw", "_law_pick", "_law_weight", "_law_word", "_law_led", "_law_sequence", "_law_drawn", "_law_names", "_law_made", "_law_right"]
def loose : List Str := loose0 ++ (loose1 ++ (loose2))
abbrev R : PySem.W.OpenRow := PySem.W.OpenLaw.row PySem.Challenge.rw_owncontraries_k79_whole_own_rooms_by_kin
abbrev hk : PySem.W.Hook := He.hookX 4 fa fn [] [] ex
def ob (s : PySem.W.SharedT) : He.AlX := He.obsX 4 fa fn [] [] ex (HandSHeadRun.getT s)
theorem ob_eq (s : PySem.W.SharedT) : ob s = hk.obs s.abs := He.obsX_eq (HandSHeadRun.getT_eq s)
theorem run (w : World) : HandSHeadRun.RunEq R (PySem.W.view R.prog [90]) hk ob 6000 loose w := by
  intro os
  kernel_rfl
end Oc
/-! what the walk asks, from what the head tells -/
namespace Oc
open PySem PySem.Spec PyProof.Rows L2
theorem tx_mk {w : World} {K : PySem.W.Frag} {h : Heap} {mg : Str → Option Value} (X : K.In h) (G : h.Ns mainGlobals mg) (c : He.SaysX fa fn [] [] ex w h K) : Tx K mg where
  f_is_integer := defAt (c.t.d.def_ 0 (d := d_is_integer) rfl) (He.glo_ok X G (c.t.d.fact 0 (f := .glo "is_integer") rfl))
  f_is_count := defAt (c.t.d.def_ 1 (d := d_is_count) rfl) (He.glo_ok X G (c.t.d.fact 1 (f := .glo "is_count") rfl))
  f_is_list := defAt (c.t.d.def_ 2 (d := d_is_list) rfl) (He.glo_ok X G (c.t.d.fact 2 (f := .glo "is_list") rfl))
  f_is_places := defAt (c.t.d.def_ 3 (d := d_is_places) rfl) (He.glo_ok X G (c.t.d.fact 3 (f := .glo "is_places") rfl))
  f_want_places := defAt (c.t.d.def_ 4 (d := d_want_places) rfl) (He.glo_ok X G (c.t.d.fact 4 (f := .glo "want_places") rfl))
  f_want_at_most := defAt (c.t.d.def_ 5 (d := d_want_at_most) rfl) (He.glo_ok X G (c.t.d.fact 5 (f := .glo "want_at_most") rfl))
  f_left_of := defAt (c.t.d.def_ 6 (d := d_left_of) rfl) (He.glo_ok X G (c.t.d.fact 6 (f := .glo "left_of") rfl))
  f_with_word := defAt (c.t.d.def_ 7 (d := d_with_word) rfl) (He.glo_ok X G (c.t.d.fact 7 (f := .glo "with_word") rfl))
  f_plain_basis := defAt (c.t.d.def_ 8 (d := d_plain_basis) rfl) (He.glo_ok X G (c.t.d.fact 8 (f := .glo "plain_basis") rfl))
  f_all_words := defAt (c.t.d.def_ 9 (d := d_all_words) rfl) (He.glo_ok X G (c.t.d.fact 9 (f := .glo "all_words") rfl))
  f_Told_init := methAt (c.t.d.def_ 10 (d := d_Told_init) rfl)
  f_told_room := defAt (c.t.d.def_ 11 (d := d_told_room) rfl) (He.glo_ok X G (c.t.d.fact 10 (f := .glo "told_room") rfl))
  f_Room_init := methAt (c.t.d.def_ 12 (d := d_Room_init) rfl)
  f_room_by := defAt (c.t.d.def_ 13 (d := d_room_by) rfl) (He.glo_ok X G (c.t.d.fact 11 (f := .glo "room_by") rfl))
  f_want_room := defAt (c.t.d.def_ 14 (d := d_want_room) rfl) (He.glo_ok X G (c.t.d.fact 12 (f := .glo "want_room") rfl))
  f_want_word := defAt (c.t.d.def_ 15 (d := d_want_word) rfl) (He.glo_ok X G (c.t.d.fact 13 (f := .glo "want_word") rfl))
  f_weight_of := defAt (c.t.d.def_ 16 (d := d_weight_of) rfl) (He.glo_ok X G (c.t.d.fact 14 (f := .glo "weight_of") rfl))
  f_is_odd := defAt (c.t.d.def_ 17 (d := d_is_odd) rfl) (He.glo_ok X G (c.t.d.fact 15 (f := .glo "is_odd") rfl))
  f_spots_of := defAt (c.t.d.def_ 18 (d := d_spots_of) rfl) (He.glo_ok X G (c.t.d.fact 16 (f := .glo "spots_of") rfl))
  f_all_on := defAt (c.t.d.def_ 19 (d := d_all_on) rfl) (He.glo_ok X G (c.t.d.fact 17 (f := .glo "all_on") rfl))
  f_contrary_basis := defAt (c.t.d.def_ 20 (d := d_contrary_basis) rfl) (He.glo_ok X G (c.t.d.fact 18 (f := .glo "contrary_basis") rfl))
  f_odd_two := defAt (c.t.d.def_ 21 (d := d_odd_two) rfl) (He.glo_ok X G (c.t.d.fact 19 (f := .glo "odd_two") rfl))
  f_are_still := defAt (c.t.d.def_ 22 (d := d_are_still) rfl) (He.glo_ok X G (c.t.d.fact 20 (f := .glo "are_still") rfl))
  f_missing_word := defAt (c.t.d.def_ 23 (d := d_missing_word) rfl) (He.glo_ok X G (c.t.d.fact 21 (f := .glo "missing_word") rfl))
  f_is_own_room := defAt (c.t.d.def_ 24 (d := d_is_own_room) rfl) (He.glo_ok X G (c.t.d.fact 22 (f := .glo "is_own_room") rfl))
  f_want_still := defAt (c.t.d.def_ 25 (d := d_want_still) rfl) (He.glo_ok X G (c.t.d.fact 23 (f := .glo "want_still") rfl))
  f_is_own := defAt (c.t.d.def_ 26 (d := d_is_own) rfl) (He.glo_ok X G (c.t.d.fact 24 (f := .glo "is_own") rfl))
  f_want_alike := defAt (c.t.d.def_ 27 (d := d_want_alike) rfl) (He.glo_ok X G (c.t.d.fact 25 (f := .glo "want_alike") rfl))
  f_below := defAt (c.t.d.def_ 28 (d := d_below) rfl) (He.glo_ok X G (c.t.d.fact 26 (f := .glo "below") rfl))
  f_shortened_basis := defAt (c.t.d.def_ 29 (d := d_shortened_basis) rfl) (He.glo_ok X G (c.t.d.fact 27 (f := .glo "shortened_basis") rfl))
  f_masks_of := defAt (c.t.d.def_ 30 (d := d_masks_of) rfl) (He.glo_ok X G (c.t.d.fact 28 (f := .glo "masks_of") rfl))
  f_parts_of := defAt (c.t.d.def_ 31 (d := d_parts_of) rfl) (He.glo_ok X G (c.t.d.fact 29 (f := .glo "parts_of") rfl))
  f_with_way := defAt (c.t.d.def_ 32 (d := d_with_way) rfl) (He.glo_ok X G (c.t.d.fact 30 (f := .glo "with_way") rfl))
  f_small_basis := defAt (c.t.d.def_ 33 (d := d_small_basis) rfl) (He.glo_ok X G (c.t.d.fact 31 (f := .glo "small_basis") rfl))
  f_light_basis := defAt (c.t.d.def_ 34 (d := d_light_basis) rfl) (He.glo_ok X G (c.t.d.fact 32 (f := .glo "light_basis") rfl))
  f_Search_init := methAt (c.t.d.def_ 35 (d := d_Search_init) rfl)
  f_Search_steps := methAt (c.t.d.def_ 36 (d := d_Search_steps) rfl)
  f_Search_ended := methAt (c.t.d.def_ 37 (d := d_Search_ended) rfl)
  f_ways_by := defAt (c.t.d.def_ 38 (d := d_ways_by) rfl) (He.glo_ok X G (c.t.d.fact 33 (f := .glo "ways_by") rfl))
  f_marks_of := defAt (c.t.d.def_ 39 (d := d_marks_of) rfl) (He.glo_ok X G (c.t.d.fact 34 (f := .glo "marks_of") rfl))
  f_leading := defAt (c.t.d.def_ 40 (d := d_leading) rfl) (He.glo_ok X G (c.t.d.fact 35 (f := .glo "leading") rfl))
  f_factorial := defAt (c.t.d.def_ 41 (d := d_factorial) rfl) (He.glo_ok X G (c.t.d.fact 36 (f := .glo "factorial") rfl))
  f_exchanges_of := defAt (c.t.d.def_ 42 (d := d_exchanges_of) rfl) (He.glo_ok X G (c.t.d.fact 37 (f := .glo "exchanges_of") rfl))
  f_alike := defAt (c.t.d.def_ 43 (d := d_alike) rfl) (He.glo_ok X G (c.t.d.fact 38 (f := .glo "alike") rfl))
  f_own_exchanges := defAt (c.t.d.def_ 44 (d := d_own_exchanges) rfl) (He.glo_ok X G (c.t.d.fact 39 (f := .glo "own_exchanges") rfl))
  f_with_all := defAt (c.t.d.def_ 45 (d := d_with_all) rfl) (He.glo_ok X G (c.t.d.fact 40 (f := .glo "with_all") rfl))
  f_filled_basis := defAt (c.t.d.def_ 46 (d := d_filled_basis) rfl) (He.glo_ok X G (c.t.d.fact 41 (f := .glo "filled_basis") rfl))
  f_filled := defAt (c.t.d.def_ 47 (d := d_filled) rfl) (He.glo_ok X G (c.t.d.fact 42 (f := .glo "filled") rfl))
  f_pairs_of := defAt (c.t.d.def_ 48 (d := d_pairs_of) rfl) (He.glo_ok X G (c.t.d.fact 43 (f := .glo "pairs_of") rfl))
  f_without_pairs := defAt (c.t.d.def_ 49 (d := d_without_pairs) rfl) (He.glo_ok X G (c.t.d.fact 44 (f := .glo "without_pairs") rfl))
  f_kind_name := defAt (c.t.d.def_ 50 (d := d_kind_name) rfl) (He.glo_ok X G (c.t.d.fact 45 (f := .glo "kind_name") rfl))
  f_lots_of := defAt (c.t.d.def_ 51 (d := d_lots_of) rfl) (He.glo_ok X G (c.t.d.fact 46 (f := .glo "lots_of") rfl))
  f_pairs := defAt (c.t.d.def_ 52 (d := d_pairs) rfl) (He.glo_ok X G (c.t.d.fact 47 (f := .glo "pairs") rfl))
  f_fours_kinds := defAt (c.t.d.def_ 53 (d := d_fours_kinds) rfl) (He.glo_ok X G (c.t.d.fact 48 (f := .glo "fours_kinds") rfl))
  f_l_pot := defAt (c.t.d.def_ 54 (d := d_l_pot) rfl) (He.glo_ok X G (c.t.d.fact 49 (f := .glo "_law_pot") rfl))
  f_l_draw := defAt (c.t.d.def_ 55 (d := d_l_draw) rfl) (He.glo_ok X G (c.t.d.fact 50 (f := .glo "_law_draw") rfl))
  f_l_pick := defAt (c.t.d.def_ 56 (d := d_l_pick) rfl) (He.glo_ok X G (c.t.d.fact 51 (f := .glo "_law_pick") rfl))
  f_l_weight := defAt (c.t.d.def_ 57 (d := d_l_weight) rfl) (He.glo_ok X G (c.t.d.fact 52 (f := .glo "_law_weight") rfl))
  f_l_word := defAt (c.t.d.def_ 58 (d := d_l_word) rfl) (He.glo_ok X G (c.t.d.fact 53 (f := .glo "_law_word") rfl))
  f_l_led := defAt (c.t.d.def_ 59 (d := d_l_led) rfl) (He.glo_ok X G (c.t.d.fact 54 (f := .glo "_law_led") rfl))
  f_l_sequence := defAt (c.t.d.def_ 60 (d := d_l_sequence) rfl) (He.glo_ok X G (c.t.d.fact 55 (f := .glo "_law_sequence") rfl))
  f_l_drawn := defAt (c.t.d.def_ 61 (d := d_l_drawn) rfl) (He.glo_ok X G (c.t.d.fact 56 (f := .glo "_law_drawn") rfl))
  f_l_names := defAt (c.t.d.def_ 62 (d := d_l_names) rfl) (He.glo_ok X G (c.t.d.fact 57 (f := .glo "_law_names") rfl))
  f_l_made := defAt (c.t.d.def_ 63 (d := d_l_made) rfl) (He.glo_ok X G (c.t.d.fact 58 (f := .glo "_law_made") rfl))
  f_l_right := defAt (c.t.d.def_ 64 (d := d_l_right) rfl) (He.glo_ok X G (c.t.d.fact 59 (f := .glo "_law_right") rfl))
  f_law := defAt (c.t.d.def_ 65 (d := d_law) rfl) (He.glo_ok X G (c.t.d.fact 60 (f := .glo "law") rfl))
  g_Told := He.glo_ok X G (c.t.d.fact 61 (f := .glo "Told") rfl)
  cl_Told := He.cls_ok (c.t.d.fact 62 (f := .cls "Told") rfl)
  mk_Told := He.mkr_ok (c.t.d.fact 63 (f := .mkr "Told") rfl)
  no_told_places := He.noat_ok (c.t.d.fact 64 (f := .noat "Told" "told_places") rfl)
  no_told_basis := He.noat_ok (c.t.d.fact 65 (f := .noat "Told" "told_basis") rfl)
  g_Room := He.glo_ok X G (c.t.d.fact 66 (f := .glo "Room") rfl)
  cl_Room := He.cls_ok (c.t.d.fact 67 (f := .cls "Room") rfl)
  mk_Room := He.mkr_ok (c.t.d.fact 68 (f := .mkr "Room") rfl)
  no_own_places := He.noat_ok (c.t.d.fact 69 (f := .noat "Room" "own_places") rfl)
  no_own_basis := He.noat_ok (c.t.d.fact 70 (f := .noat "Room" "own_basis") rfl)
  g_Search := He.glo_ok X G (c.t.d.fact 71 (f := .glo "Search") rfl)
  cl_Search := He.cls_ok (c.t.d.fact 72 (f := .cls "Search") rfl)
  mk_Search := He.mkr_ok (c.t.d.fact 73 (f := .mkr "Search") rfl)
  no_own_goals := He.noat_ok (c.t.d.fact 74 (f := .noat "Search" "own_goals") rfl)
  no_own_some := He.noat_ok (c.t.d.fact 75 (f := .noat "Search" "own_some") rfl)
  m_Search_steps := He.meth_ok (c.t.d.fact 76 (f := .meth "Search" "steps") rfl)
  m_Search_ended := He.meth_ok (c.t.d.fact 77 (f := .meth "Search" "ended") rfl)
  c_MOST_PLACES_basics := He.int_ok X G (c.t.d.fact 78 (f := .int "MOST_PLACES_basics" 24) rfl)
  c_MOST_WORDS := He.int_ok X G (c.t.d.fact 79 (f := .int "MOST_WORDS" 48) rfl)
  c_MOST_PLACES_alike := He.int_ok X G (c.t.d.fact 80 (f := .int "MOST_PLACES_alike" 12) rfl)
  c_FOUR := He.int_ok X G (c.t.d.fact 81 (f := .int "FOUR" 4) rfl)
  g_HALVES := He.glo_ok X G (c.t.d.fact 82 (f := .glo "HALVES") rfl)
  t_HALVES := fun H => halves_ok (ex_halves c.more) H
  b_abs := He.free_ok X G (c.t.d.fact 83 (f := .free "abs") rfl)
  b_all := He.free_ok X G (c.t.d.fact 84 (f := .free "all") rfl)
  b_bool := He.free_ok X G (c.t.d.fact 85 (f := .free "bool") rfl)
  b_dict := He.free_ok X G (c.t.d.fact 86 (f := .free "dict") rfl)
  b_divmod := He.free_ok X G (c.t.d.fact 87 (f := .free "divmod") rfl)
  b_enumerate := He.free_ok X G (c.t.d.fact 88 (f := .free "enumerate") rfl)
  b_int := He.free_ok X G (c.t.d.fact 89 (f := .free "int") rfl)
  b_isinstance := He.free_ok X G (c.t.d.fact 90 (f := .free "isinstance") rfl)
  b_len := He.free_ok X G (c.t.d.fact 91 (f := .free "len") rfl)
  b_list := He.free_ok X G (c.t.d.fact 92 (f := .free "list") rfl)
  b_max := He.free_ok X G (c.t.d.fact 93 (f := .free "max") rfl)
  b_min := He.free_ok X G (c.t.d.fact 94 (f := .free "min") rfl)
  b_range := He.free_ok X G (c.t.d.fact 95 (f := .free "range") rfl)
  b_set := He.free_ok X G (c.t.d.fact 96 (f := .free "set") rfl)
  b_sorted := He.free_ok X G (c.t.d.fact 97 (f := .free "sorted") rfl)
  b_sum := He.free_ok X G (c.t.d.fact 98 (f := .free "sum") rfl)
  b_tuple := He.free_ok X G (c.t.d.fact 99 (f := .free "tuple") rfl)
  b_zip := He.free_ok X G (c.t.d.fact 100 (f := .free "zip") rfl)
  ti_Told := insTy_ok (ex_told c.more)
  ti_Room := insTy_ok (ex_room c.more)
  is_int_Told := of_decide_eq_true (ex_int c.more)
theorem facts {P : Program} {w : World} {K : PySem.W.Frag} {h : Heap} {mg : Str → Option Value} {f : Addr} (X : K.In h) (G : h.Ns mainGlobals mg) (hfa : mg ("law" : Str) = some (.ref f)) (c : He.SaysX fa fn [] [] ex w h K) :
    ∃ fd : FuncData, (∀ (s : Shared) (v : Value), BindsTo s fd ⟨[v], []⟩ [("_law_script", v)]) ∧ ∀ base : Heap, K.In base → base.Ns mainGlobals mg → FnOk P w K mg base CX0 13 f fd ["_law_script"] (sp_law K) := by
  have T : Tx K mg := tx_mk X G c
  obtain ⟨fd, F, g⟩ := T.f_law
  have e := hfa.symm.trans g
  cases e
  have b := FunD.bindsA (ps := ["_law_script"]) F fun _ _ _ _ _ _ us hl => match us, hl with | [_], _ => rfl
  exact ⟨fd, fun s v => b s [v] rfl, fun base _ _ => ok_law T F⟩
end Oc
open PySem PySem.W PySem.Calls PyProof.Rows
theorem PySem.Challenge.cw_owncontraries_k79_whole_own_rooms_by_kin_holds : PySem.Challenge.rw_owncontraries_k79_whole_own_rooms_by_kin.Holds := by
  w_on; o_law
  refine HandSHeadRun.head_any (r := OpenLaw.row PySem.Challenge.rw_owncontraries_k79_whole_own_rooms_by_kin) (q := view (OpenLaw.row PySem.Challenge.rw_owncontraries_k79_whole_own_rooms_by_kin).prog [90]) (H := Oc.hk) (ob := Oc.ob) (M := 6000) (loose := Oc.loose) (d := HandSHeadRun.topDef (OpenLaw.row PySem.Challenge.rw_owncontraries_k79_whole_own_rooms_by_kin).prog 90) (kwd := []) Oc.ob_eq
    (by kernel_rfl) (fun s => by kernel_rfl) Oc.run (by kernel_rfl) (by kernel_rfl) (by kernel_rfl) (by rfl) (by first | assumption | decide +kernel) (by decide +kernel) ⟨rfl, rfl, rfl, rfl, rfl, by decide +kernel⟩ ?hw ?hc
  case hw => w_witness2
  case hc =>
    refine L2.walk_ofE (l := PySem.Challenge.rw_owncontraries_k79_whole_own_rooms_by_kin) (n := 63) (k := 13) (x := "_law_script") (CX := L2.CX0) rfl (by decide) (by kernel_rfl) ⟨rfl, by decide, by decide⟩ ?F (fun _ _ _ _ z => z)
    intro w mg fa h Y G hmg0
    obtain ⟨K, KX, c⟩ := Y
    have hmg : mg ("law" : PySem.Str) = some (.ref fa) := by
      have e : (HandSHeadRun.topDef (OpenLaw.row PySem.Challenge.rw_owncontraries_k79_whole_own_rooms_by_kin).prog 90).name = ("law" : PySem.Str) := by kernel_rfl
      rw [← e]
      exact hmg0
    obtain ⟨fd, hb, hF⟩ := Oc.facts (P := (PySem.Challenge.rw_owncontraries_k79_whole_own_rooms_by_kin).prog) (w := w) KX G hmg c
    exact ⟨K, fd, Oc.sp_law K, KX, hb, fun H a ns hl _ hS => ⟨a, ns, rfl, hS, hl, fun _ => rfl⟩, hF⟩
