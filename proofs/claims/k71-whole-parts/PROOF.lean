import PyProof.Rows.All
import Wide.All
import OpenK.AllK
import Wide.FinOn
import HandS.ForMost
import HandS.Evl
import HandS.IsInst
import HandS.Sort
import HandS.SortInts
import HandS.SortKw
import HandS.Wide
import HandS.WideBits
import HandS.Conv
import HandS.Flow
import HandS.Defaults
import HandS.EndBits
import KE.SortData
import HandS.Walk
import HandS.NamedTupSort
import HandS.Style
import PySem.Challenge.RW_owncontraries_k71_whole_parts_of_rooms
set_option Elab.async false
set_option linter.all false
set_option maxRecDepth 100000
set_option maxHeartbeats 4000000
/-! Law k71: by plain Lean (namespace K71, and the parts M of K7) and a walk over the layer HandS (K7): each def keeps a promise; the head last. -/
namespace K71
/-! ### bits -/
def IsTop (b p : Nat) : Prop := b.testBit p = true ∧ ∀ j, p < j → b.testBit j = false
theorem top_ex {b : Nat} (h : b ≠ 0) : ∃ p, IsTop b p := by
  refine ⟨b.log2, ?_, fun j hj => ?_⟩
  · exact Nat.testBit_log2 h
  · exact Nat.testBit_lt_two_pow (Nat.lt_of_lt_of_le (Nat.lt_log2_self) (Nat.pow_le_pow_right (by decide) hj))
theorem top_uq {b p q : Nat} (h : IsTop b p) (k : IsTop b q) : p = q := by
  rcases Nat.lt_trichotomy p q with e | e | e
  · have a := h.2 q e; rw [k.1] at a; cases a
  · exact e
  · have a := k.2 p e; rw [h.1] at a; cases a
theorem lt_bit {x y : Nat} (i : Nat) (hx : x.testBit i = false) (hy : y.testBit i = true) (h : ∀ j, i < j → x.testBit j = y.testBit j) : x < y := by
  have e : x / 2 ^ (i + 1) = y / 2 ^ (i + 1) := Nat.eq_of_testBit_eq fun k => by
    rw [Nat.testBit_div_two_pow, Nat.testBit_div_two_pow]
    exact h _ (by omega)
  have a : x % 2 ^ (i + 1) < 2 ^ i := Nat.lt_pow_two_of_testBit _ fun j hj => by
    rw [Nat.testBit_mod_two_pow]
    by_cases k : j = i
    · rw [k, hx, Bool.and_false]
    · rw [decide_eq_false (by omega), Bool.false_and]
  have b : y % 2 ^ (i + 1) ≥ 2 ^ i := Nat.ge_two_pow_of_testBit (i := i) (by
    rw [Nat.testBit_mod_two_pow, hy, decide_eq_true (by omega)]; rfl)
  have c := Nat.div_add_mod x (2 ^ (i + 1))
  have d := Nat.div_add_mod y (2 ^ (i + 1))
  rw [e] at c
  omega
theorem min_xor {w b p : Nat} (h : IsTop b p) : min w (w ^^^ b) = if w.testBit p = true then w ^^^ b else w := by
  by_cases e : w.testBit p = true
  · rw [if_pos e]
    refine Nat.min_eq_right (Nat.le_of_lt (lt_bit p ?_ e fun j hj => ?_))
    · rw [Nat.testBit_xor, e, h.1]; rfl
    · rw [Nat.testBit_xor, h.2 j hj, Bool.xor_false]
  · rw [if_neg e]
    have e' : w.testBit p = false := by simpa using e
    refine Nat.min_eq_left (Nat.le_of_lt (lt_bit p e' ?_ fun j hj => ?_))
    · rw [Nat.testBit_xor, e', h.1]; rfl
    · rw [Nat.testBit_xor, h.2 j hj, Bool.xor_false]
theorem bit_ext {x y : Nat} (h : ∀ i, x.testBit i = y.testBit i) : x = y := Nat.eq_of_testBit_eq h
theorem x_self (x : Nat) : x ^^^ x = 0 := Nat.xor_self x
theorem x_cancel (x y : Nat) : (x ^^^ y) ^^^ y = x := by
  rw [Nat.xor_assoc, Nat.xor_self, Nat.xor_zero]

/-! ### sums of words -/
def spanL : List Nat → List Nat
  | [] => [0]
  | b :: bs => spanL bs ++ (spanL bs).map (· ^^^ b)
def InS (ws : List Nat) (x : Nat) : Prop := x ∈ spanL ws
theorem in_cons {b : Nat} {bs : List Nat} {x : Nat} : InS (b :: bs) x ↔ InS bs x ∨ InS bs (x ^^^ b) := by
  unfold InS
  show x ∈ spanL bs ++ (spanL bs).map (· ^^^ b) ↔ _
  rw [List.mem_append, List.mem_map]
  constructor
  · rintro (h | ⟨y, h, rfl⟩)
    · exact .inl h
    · right; rw [x_cancel]; exact h
  · rintro (h | h)
    · exact .inl h
    · exact .inr ⟨_, h, x_cancel _ _⟩
theorem in_nil {x : Nat} : InS [] x ↔ x = 0 := by unfold InS spanL; simp
theorem in_zero : ∀ ws : List Nat, InS ws 0
  | [] => in_nil.mpr rfl
  | _ :: bs => in_cons.mpr (.inl (in_zero bs))
theorem in_xor : ∀ {ws : List Nat} {x y : Nat}, InS ws x → InS ws y → InS ws (x ^^^ y)
  | [], x, y, h, k => by rw [in_nil] at h k ⊢; rw [h, k]; rfl
  | b :: bs, x, y, h, k => by
    rw [in_cons] at h k ⊢
    rcases h with h | h <;> rcases k with k | k
    · exact .inl (in_xor h k)
    · right; rw [Nat.xor_assoc]; exact in_xor h k
    · right; rw [Nat.xor_assoc, Nat.xor_comm y b, ← Nat.xor_assoc]; exact in_xor h k
    · left
      have z := in_xor h k
      have e : (x ^^^ b) ^^^ (y ^^^ b) = x ^^^ y := by
        apply bit_ext; intro i; simp only [Nat.testBit_xor]
        cases x.testBit i <;> cases y.testBit i <;> cases b.testBit i <;> rfl
      rw [e] at z; exact z
theorem in_mem : ∀ {ws : List Nat} {w : Nat}, w ∈ ws → InS ws w
  | b :: bs, w, h => by
    rw [in_cons]
    rcases List.mem_cons.mp h with e | h
    · right; rw [e, x_self]; exact in_zero bs
    · exact .inl (in_mem h)
theorem in_ind {P : Nat → Prop} (h0 : P 0) : ∀ {ws : List Nat} {x : Nat}, InS ws x → (∀ w, w ∈ ws → ∀ y, P y → P (y ^^^ w)) → P x
  | [], x, h, _ => by rw [in_nil] at h; rw [h]; exact h0
  | b :: bs, x, h, hs => by
    rw [in_cons] at h
    rcases h with h | h
    · exact in_ind h0 h fun w hw => hs w (List.mem_cons_of_mem _ hw)
    · have z := hs b List.mem_cons_self _ (in_ind h0 h fun w hw => hs w (List.mem_cons_of_mem _ hw))
      rw [x_cancel] at z; exact z
theorem in_sub {ws vs : List Nat} {x : Nat} (h : ∀ w, w ∈ ws → InS vs w) (k : InS ws x) : InS vs x :=
  in_ind (in_zero vs) k fun w hw _ hy => in_xor hy (h w hw)
theorem in_lt {ws : List Nat} {x n : Nat} (h : ∀ w, w ∈ ws → w < 2 ^ n) (k : InS ws x) : x < 2 ^ n :=
  in_ind (P := fun x => x < 2 ^ n) (Nat.two_pow_pos n) k fun w hw _ hy => Nat.xor_lt_two_pow hy (h w hw)
theorem span_len : ∀ ws : List Nat, (spanL ws).length = 2 ^ ws.length
  | [] => rfl
  | b :: bs => by
    show (spanL bs ++ (spanL bs).map (· ^^^ b)).length = 2 ^ (bs.length + 1)
    rw [List.length_append, List.length_map, span_len bs, Nat.pow_succ]
    omega

/-! ### plain bases -/
def Apart (b c : Nat) : Prop := (∀ q, IsTop b q → c.testBit q = false) ∧ (∀ q, IsTop c q → b.testBit q = false)
structure Plain (B : List Nat) : Prop where
  pos : ∀ b, b ∈ B → b ≠ 0
  pw : B.Pairwise Apart
theorem Plain.nil : Plain [] := ⟨fun _ h => (by cases h), .nil⟩
theorem Apart.symm {b c : Nat} (h : Apart b c) : Apart c b := ⟨h.2, h.1⟩
theorem Plain.perm {B C : List Nat} (h : Plain B) (p : C.Perm B) : Plain C :=
  ⟨fun b hb => h.pos b (p.mem_iff.mp hb), (p.pairwise_iff (fun h => Apart.symm h)).mpr h.pw⟩
theorem Plain.nodup {B : List Nat} (h : Plain B) : B.Nodup := by
  have hp := h.pos
  refine h.pw.imp_of_mem fun {b c} hb hc a e => ?_
  obtain ⟨p, hp⟩ := top_ex (hp b hb)
  have z := a.1 p hp
  rw [← e, hp.1] at z; cases z
theorem Plain.off {B : List Nat} (h : Plain B) {b c q : Nat} (hb : b ∈ B) (hc : c ∈ B) (ne : b ≠ c) (t : IsTop b q) : c.testBit q = false := by
  have aux : ∀ {l : List Nat}, l.Pairwise Apart → b ∈ l → c ∈ l → c.testBit q = false := by
    intro l hl
    induction hl with
    | nil => intro hb; cases hb
    | @cons a l h1 h2 ih =>
      intro hb hc
      rcases List.mem_cons.mp hb with e | hb
      · rcases List.mem_cons.mp hc with e' | hc
        · exact absurd (e.trans e'.symm) ne
        · exact (h1 c hc).1 q (e ▸ t)
      · rcases List.mem_cons.mp hc with e' | hc
        · exact e' ▸ (h1 b hb).2 q t
        · exact ih hb hc
  exact aux h.pw hb hc

/-- what is left of a word -/
def leftOf (B : List Nat) (w : Nat) : Nat := B.foldl (fun w one => min w (w ^^^ one)) w
theorem left_aux {B : List Nat} (P : Plain B) : ∀ (r d : List Nat) (w : Nat), (∀ b, b ∈ r → b ∈ B) → (∀ b, b ∈ d → b ∈ B) → (∀ b, b ∈ B → b ∈ d ∨ b ∈ r) → (∀ b q, b ∈ d → IsTop b q → w.testBit q = false) →
    InS B (w ^^^ leftOf r w) ∧ ∀ b q, b ∈ B → IsTop b q → (leftOf r w).testBit q = false
  | [], d, w, _, _, hc, ho => by
    refine ⟨?_, fun b q hb t => ?_⟩
    · show InS B (w ^^^ w); rw [x_self]; exact in_zero B
    · rcases hc b hb with h | h
      · exact ho b q h t
      · cases h
  | o :: r, d, w, hr, hd, hc, ho => by
    have hoB : o ∈ B := hr o List.mem_cons_self
    obtain ⟨p, tp⟩ := top_ex (P.pos o hoB)
    have e : leftOf (o :: r) w = leftOf r (min w (w ^^^ o)) := rfl
    have em := min_xor (w := w) tp
    have ih := left_aux P r (o :: d) (min w (w ^^^ o)) (fun b hb => hr b (List.mem_cons_of_mem _ hb)) (fun b hb => by
        rcases List.mem_cons.mp hb with h | h
        · rw [h]; exact hoB
        · exact hd b h) (fun b hb => by
        rcases hc b hb with h | h
        · exact .inl (List.mem_cons_of_mem _ h)
        · rcases List.mem_cons.mp h with h | h
          · exact .inl (by rw [h]; exact List.mem_cons_self)
          · exact .inr h) (fun b q hb t => by
        rw [em]
        by_cases eb : b = o
        · have eq := top_uq t (eb ▸ tp)
          subst eq
          split
          · rename_i h; rw [Nat.testBit_xor, h, tp.1]; rfl
          · rename_i h; simpa using h
        · have hbd : b ∈ d := by
            rcases List.mem_cons.mp hb with h | h
            · exact absurd h eb
            · exact h
          have z := ho b q hbd t
          split
          · rw [Nat.testBit_xor, z, P.off (hd b hbd) hoB eb t]; rfl
          · exact z)
    rw [e]
    refine ⟨?_, ih.2⟩
    have s1 : InS B (w ^^^ min w (w ^^^ o)) := by
      rw [em]
      split
      · rw [← Nat.xor_assoc, x_self, Nat.zero_xor]; exact in_mem hoB
      · rw [x_self]; exact in_zero B
    have s2 := in_xor s1 ih.1
    have e2 : (w ^^^ min w (w ^^^ o)) ^^^ (min w (w ^^^ o) ^^^ leftOf r (min w (w ^^^ o))) = w ^^^ leftOf r (min w (w ^^^ o)) := by
      rw [Nat.xor_assoc, ← Nat.xor_assoc (min w (w ^^^ o)), x_self, Nat.zero_xor]
    rw [e2] at s2; exact s2
theorem left_in {B : List Nat} (P : Plain B) (w : Nat) : InS B (w ^^^ leftOf B w) := (left_aux P B [] w (fun _ h => h) (fun _ h => nomatch h) (fun _ h => .inr h) (fun _ _ h => nomatch h)).1
theorem left_off {B : List Nat} (P : Plain B) (w : Nat) {b q : Nat} (hb : b ∈ B) (t : IsTop b q) : (leftOf B w).testBit q = false := (left_aux P B [] w (fun _ h => h) (fun _ h => nomatch h) (fun _ h => .inr h) (fun _ _ h => nomatch h)).2 b q hb t

/-- two rooms are one -/
def SameS (A B : List Nat) : Prop := ∀ x, InS A x ↔ InS B x
theorem SameS.of {A B : List Nat} (h : ∀ x, x ∈ A → InS B x) (k : ∀ x, x ∈ B → InS A x) : SameS A B := fun _ => ⟨in_sub h, in_sub k⟩
/-- one more word -/
def added (B : List Nat) (l : Nat) : List Nat := B.map (fun o => min o (o ^^^ l)) ++ [l]
theorem added_plain {B : List Nat} (P : Plain B) {w : Nat} (h0 : leftOf B w ≠ 0) : Plain (added B (leftOf B w)) := by
  obtain ⟨p, tp⟩ := top_ex h0
  generalize hl : leftOf B w = l at *
  have off : ∀ b q, b ∈ B → IsTop b q → l.testBit q = false := fun b q hb t => by rw [← hl]; exact left_off P w hb t
  have em : ∀ b, min b (b ^^^ l) = if b.testBit p = true then b ^^^ l else b := fun b => min_xor tp
  -- the new word's top is the old one's
  have tops : ∀ b q, b ∈ B → IsTop b q → IsTop (min b (b ^^^ l)) q := fun b q hb t => by
    rw [em]
    split
    · rename_i h
      have hpq : p < q := by
        rcases Nat.lt_trichotomy p q with e | e | e
        · exact e
        · rw [← e] at t; have z := off b p hb t; rw [tp.1] at z; cases z
        · have z := t.2 p e; rw [h] at z; cases z
      exact ⟨by rw [Nat.testBit_xor, t.1, off b q hb t]; rfl, fun j hj => by rw [Nat.testBit_xor, t.2 j hj, tp.2 j (by omega)]; rfl⟩
    · exact t
  have bits : ∀ c q, l.testBit q = false → c.testBit q = false → (min c (c ^^^ l)).testBit q = false := fun c q h1 h2 => by
    rw [em]; split
    · rw [Nat.testBit_xor, h1, h2]; rfl
    · exact h2
  have offp : ∀ c, (min c (c ^^^ l)).testBit p = false := fun c => by
    rw [em]; split
    · rename_i h; rw [Nat.testBit_xor, h, tp.1]; rfl
    · rename_i h; simpa using h
  have back : ∀ b q, b ∈ B → IsTop (min b (b ^^^ l)) q → IsTop b q := fun b q hb t => by
    obtain ⟨q', t'⟩ := top_ex (P.pos b hb)
    rw [top_uq t (tops b q' hb t')]; exact t'
  refine ⟨fun x hx => ?_, ?_⟩
  · rcases List.mem_append.mp hx with hx | hx
    · obtain ⟨b, hb, rfl⟩ := List.mem_map.mp hx
      obtain ⟨q, t⟩ := top_ex (P.pos b hb)
      intro e
      have z := (tops b q hb t).1
      rw [e] at z; simp at z
    · rw [List.mem_singleton.mp hx]; exact h0
  · unfold added
    refine List.pairwise_append.mpr ⟨?_, List.pairwise_singleton _ _, fun x hx y hy => ?_⟩
    · refine List.pairwise_map.mpr (P.pw.imp_of_mem fun {b c} hb hc a => ⟨fun q t => ?_, fun q t => ?_⟩)
      · have t' := back b q hb t
        exact bits c q (off b q hb t') (a.1 q t')
      · have t' := back c q hc t
        exact bits b q (off c q hc t') (a.2 q t')
    · obtain ⟨b, hb, rfl⟩ := List.mem_map.mp hx
      rw [List.mem_singleton.mp hy]
      exact ⟨fun q t => off b q hb (back b q hb t), fun q t => by rw [top_uq t tp]; exact offp b⟩
theorem added_span {B : List Nat} (P : Plain B) {w : Nat} : SameS (added B (leftOf B w)) (w :: B) := by
  have hin := left_in P w
  generalize hl : leftOf B w = l at *
  have inl : InS (w :: B) l := by
    rw [in_cons]; right; rw [Nat.xor_comm]; exact hin
  have inb : ∀ b, b ∈ B → InS (w :: B) b := fun b hb => in_mem (List.mem_cons_of_mem _ hb)
  have ml : l ∈ added B l := List.mem_append.mpr (.inr (List.mem_singleton.mpr rfl))
  have ib : ∀ b, b ∈ B → InS (added B l) b := fun b hb => by
    have z : InS (added B l) (min b (b ^^^ l)) := in_mem (List.mem_append.mpr (.inl (List.mem_map.mpr ⟨b, hb, rfl⟩)))
    rcases Nat.le_total b (b ^^^ l) with h | h
    · rw [Nat.min_eq_left h] at z; exact z
    · rw [Nat.min_eq_right h] at z
      have y := in_xor z (in_mem ml)
      rw [x_cancel] at y; exact y
  refine .of (fun x hx => ?_) (fun x hx => ?_)
  · rcases List.mem_append.mp hx with hx | hx
    · obtain ⟨b, hb, rfl⟩ := List.mem_map.mp hx
      rcases Nat.le_total b (b ^^^ l) with h | h
      · rw [Nat.min_eq_left h]; exact inb b hb
      · rw [Nat.min_eq_right h]; exact in_xor (inb b hb) inl
    · rw [List.mem_singleton.mp hx]; exact inl
  · rcases List.mem_cons.mp hx with h | h
    · have z := in_xor (in_sub ib hin) (in_mem ml)
      rw [x_cancel] at z; rw [h]; exact z
    · exact ib x h
theorem left_zero {B : List Nat} (P : Plain B) {w : Nat} (h0 : leftOf B w = 0) : SameS B (w :: B) := by
  have hin := left_in P w
  rw [h0, Nat.xor_zero] at hin
  exact .of (fun x hx => in_mem (List.mem_cons_of_mem _ hx)) fun x hx => by
    rcases List.mem_cons.mp hx with h | h
    · rw [h]; exact hin
    · exact in_mem h
/-- sums that are off at all tops are 0 -/
theorem plain_zero {B : List Nat} (P : Plain B) {x : Nat} (h : InS B x) (k : ∀ b q, b ∈ B → IsTop b q → x.testBit q = false) : x = 0 := by
  induction B generalizing x with
  | nil => exact in_nil.mp h
  | cons b bs ih =>
    have Pb : Plain bs := ⟨fun c hc => P.pos c (List.mem_cons_of_mem _ hc), (List.pairwise_cons.mp P.pw).2⟩
    obtain ⟨q, t⟩ := top_ex (P.pos b List.mem_cons_self)
    have hq := k b q List.mem_cons_self t
    have off : ∀ y, InS bs y → y.testBit q = false := fun y hy => in_ind (P := fun y => y.testBit q = false) (by simp) hy fun c hc y hy => by
      rw [Nat.testBit_xor, hy, ((List.pairwise_cons.mp P.pw).1 c hc).1 q t]; rfl
    rcases in_cons.mp h with h | h
    · exact ih Pb h fun c r hc tc => k c r (List.mem_cons_of_mem _ hc) tc
    · have z := off _ h
      rw [Nat.testBit_xor, hq, t.1] at z; cases z
theorem plain_eq {B : List Nat} (P : Plain B) {x y : Nat} (hx : InS B x) (hy : InS B y) (k : ∀ b q, b ∈ B → IsTop b q → x.testBit q = y.testBit q) : x = y := by
  have z := plain_zero P (in_xor hx hy) fun b q hb t => by rw [Nat.testBit_xor, k b q hb t, Bool.xor_self]
  have e := x_cancel x y
  rw [z, Nat.zero_xor] at e; exact e.symm
end K71
namespace K71
/-! ### masks -/
/-- one turn of the inner loop -/
def maskStep (w : Nat) (st : Nat × List Nat) (m : Nat) : Nat × List Nat := if m &&& w = 0 then (st.1, st.2 ++ [m]) else (st.1 ||| m, st.2)
def maskIn (w : Nat) (found : List Nat) : Nat × List Nat := found.foldl (maskStep w) (w, [])
def maskTurn (found : List Nat) (w : Nat) : List Nat := (maskIn w found).2 ++ [(maskIn w found).1]
def masksOf (B : List Nat) : List Nat := B.foldl maskTurn []
theorem maskIn_ap (w : Nat) : ∀ (fs : List Nat) (st : Nat × List Nat), (fs.foldl (maskStep w) st).2 = st.2 ++ fs.filter (fun m => decide (m &&& w = 0))
  | [], st => by simp
  | m :: fs, st => by
    rw [List.foldl_cons, maskIn_ap w fs, List.filter_cons]
    unfold maskStep
    by_cases h : m &&& w = 0
    · simp [h]
    · simp [h]
theorem maskIn_bit (w : Nat) : ∀ (fs : List Nat) (st : Nat × List Nat) (i : Nat), (fs.foldl (maskStep w) st).1.testBit i = true ↔ (st.1.testBit i = true ∨ ∃ m, m ∈ fs ∧ m &&& w ≠ 0 ∧ m.testBit i = true)
  | [], st, i => by simp
  | m :: fs, st, i => by
    rw [List.foldl_cons, maskIn_bit w fs]
    unfold maskStep
    by_cases h : m &&& w = 0
    · rw [if_pos h]
      constructor
      · rintro (k | ⟨m', a, b⟩)
        · exact .inl k
        · exact .inr ⟨m', List.mem_cons_of_mem _ a, b⟩
      · rintro (k | ⟨m', a, b, c⟩)
        · exact .inl k
        · rcases List.mem_cons.mp a with e | a
          · rw [e] at b; exact absurd h b
          · exact .inr ⟨m', a, b, c⟩
    · rw [if_neg h]
      constructor
      · rintro (k | ⟨m', a, b⟩)
        · have k' : (st.1 ||| m).testBit i = true := k
          rw [Nat.testBit_or, Bool.or_eq_true] at k'
          rcases k' with k | k
          · exact .inl k
          · exact .inr ⟨m, List.mem_cons_self, h, k⟩
        · exact .inr ⟨m', List.mem_cons_of_mem _ a, b⟩
      · rintro (k | ⟨m', a, b, c⟩)
        · left; show (st.1 ||| m).testBit i = true; rw [Nat.testBit_or, k, Bool.true_or]
        · rcases List.mem_cons.mp a with e | a
          · left; show (st.1 ||| m).testBit i = true; rw [Nat.testBit_or, ← e, c, Bool.or_true]
          · exact .inr ⟨m', a, b, c⟩
theorem and_zero {a b : Nat} : a &&& b = 0 ↔ ∀ i, ¬ (a.testBit i = true ∧ b.testBit i = true) := by
  constructor
  · intro h i ⟨x, y⟩
    have z : (a &&& b).testBit i = true := by rw [Nat.testBit_and, x, y]; rfl
    rw [h] at z; simp at z
  · intro h
    apply bit_ext; intro i
    rw [Nat.testBit_and, Nat.zero_testBit]
    have z := h i
    cases x : a.testBit i <;> cases y : b.testBit i <;> simp_all
theorem and_ne {a b : Nat} (h : a &&& b ≠ 0) : ∃ i, a.testBit i = true ∧ b.testBit i = true := by
  obtain ⟨p, t, _⟩ := top_ex h
  rw [Nat.testBit_and, Bool.and_eq_true] at t
  exact ⟨p, t⟩
/-- a word is within a lot of places, or outside of it -/
def Clear (T : Nat → Bool) (b : Nat) : Prop := (∀ i, b.testBit i = true → T i = true) ∨ (∀ i, b.testBit i = true → T i = false)
structure Masks (B ms : List Nat) : Prop where
  pos : ∀ m, m ∈ ms → m ≠ 0
  pw : ms.Pairwise fun a b => a &&& b = 0
  hold : ∀ b, b ∈ B → ∃ m, m ∈ ms ∧ ∀ i, b.testBit i = true → m.testBit i = true
  from_ : ∀ m i, m ∈ ms → m.testBit i = true → ∃ b, b ∈ B ∧ b.testBit i = true
  conn : ∀ m, m ∈ ms → ∀ T, (∀ b, b ∈ B → Clear T b) → Clear T m
theorem Masks.turn {B ms : List Nat} {w : Nat} (h : Masks B ms) (hw : w ≠ 0) : Masks (B ++ [w]) (maskTurn ms w) := by
  have e2 : (maskIn w ms).2 = ms.filter fun m => decide (m &&& w = 0) := by
    unfold maskIn; rw [maskIn_ap]; rfl
  have e1 : ∀ i, (maskIn w ms).1.testBit i = true ↔ (w.testBit i = true ∨ ∃ m, m ∈ ms ∧ m &&& w ≠ 0 ∧ m.testBit i = true) := fun i => by
    unfold maskIn; exact maskIn_bit w ms _ i
  unfold maskTurn
  rw [e2]
  generalize (maskIn w ms).1 = part at *
  have wp : ∀ i, w.testBit i = true → part.testBit i = true := fun i hi => (e1 i).mpr (.inl hi)
  refine ⟨fun m hm => ?_, ?_, fun b hb => ?_, fun m i hm hi => ?_, fun m hm T hT => ?_⟩
  · rcases List.mem_append.mp hm with hm | hm
    · exact h.pos m (List.mem_filter.mp hm).1
    · rw [List.mem_singleton.mp hm]
      obtain ⟨p, t⟩ := top_ex hw
      intro e
      have z := wp p t.1
      rw [e] at z; simp at z
  · refine List.pairwise_append.mpr ⟨h.pw.sublist List.filter_sublist, List.pairwise_singleton _ _, fun a ha b hb => ?_⟩
    rw [List.mem_singleton.mp hb]
    obtain ⟨ha, hz⟩ := List.mem_filter.mp ha
    have hz : a &&& w = 0 := by simpa using hz
    refine and_zero.mpr fun i ⟨x, y⟩ => ?_
    rcases (e1 i).mp y with y | ⟨m, hm, hn, hi⟩
    · exact and_zero.mp hz i ⟨x, y⟩
    · -- a and m meet: they are one
      by_cases e : a = m
      · rw [e] at hz; exact hn hz
      · have aux : ∀ {l : List Nat}, l.Pairwise (fun a b => a &&& b = 0) → a ∈ l → m ∈ l → a &&& m = 0 := by
          intro l hl
          induction hl with
          | nil => intro z; cases z
          | @cons c l h1 h2 ih =>
            intro z1 z2
            rcases List.mem_cons.mp z1 with k1 | k1
            · rcases List.mem_cons.mp z2 with k2 | k2
              · exact absurd (k1.trans k2.symm) e
              · rw [k1]; exact h1 m k2
            · rcases List.mem_cons.mp z2 with k2 | k2
              · rw [k2, Nat.and_comm]; exact h1 a k1
              · exact ih k1 k2
        exact and_zero.mp (aux h.pw ha hm) i ⟨x, hi⟩
  · rcases List.mem_append.mp hb with hb | hb
    · obtain ⟨m, hm, k⟩ := h.hold b hb
      by_cases e : m &&& w = 0
      · exact ⟨m, List.mem_append.mpr (.inl (List.mem_filter.mpr ⟨hm, by simpa using e⟩)), k⟩
      · exact ⟨part, List.mem_append.mpr (.inr (List.mem_singleton.mpr rfl)), fun i hi => (e1 i).mpr (.inr ⟨m, hm, e, k i hi⟩)⟩
    · rw [List.mem_singleton.mp hb]
      exact ⟨part, List.mem_append.mpr (.inr (List.mem_singleton.mpr rfl)), wp⟩
  · rcases List.mem_append.mp hm with hm | hm
    · obtain ⟨b, hb, k⟩ := h.from_ m i (List.mem_filter.mp hm).1 hi
      exact ⟨b, List.mem_append.mpr (.inl hb), k⟩
    · rw [List.mem_singleton.mp hm] at hi
      rcases (e1 i).mp hi with hi | ⟨m, hm, _, hi⟩
      · exact ⟨w, List.mem_append.mpr (.inr (List.mem_singleton.mpr rfl)), hi⟩
      · obtain ⟨b, hb, k⟩ := h.from_ m i hm hi
        exact ⟨b, List.mem_append.mpr (.inl hb), k⟩
  · have hB : ∀ b, b ∈ B → Clear T b := fun b hb => hT b (List.mem_append.mpr (.inl hb))
    rcases List.mem_append.mp hm with hm | hm
    · exact h.conn m (List.mem_filter.mp hm).1 T hB
    · rw [List.mem_singleton.mp hm]
      rcases hT w (List.mem_append.mpr (.inr (List.mem_singleton.mpr rfl))) with hw' | hw'
      · left; intro i hi
        rcases (e1 i).mp hi with hi | ⟨m, hm, hn, hi⟩
        · exact hw' i hi
        · rcases h.conn m hm T hB with c | c
          · exact c i hi
          · obtain ⟨j, j1, j2⟩ := and_ne hn
            have z := c j j1
            rw [hw' j j2] at z; cases z
      · right; intro i hi
        rcases (e1 i).mp hi with hi | ⟨m, hm, hn, hi⟩
        · exact hw' i hi
        · rcases h.conn m hm T hB with c | c
          · obtain ⟨j, j1, j2⟩ := and_ne hn
            have z := c j j1
            rw [hw' j j2] at z; cases z
          · exact c i hi
theorem masks_of {B : List Nat} (h : ∀ b, b ∈ B → b ≠ 0) : Masks B (masksOf B) := by
  have aux : ∀ (r d ms : List Nat), Masks d ms → (∀ b, b ∈ r → b ≠ 0) → Masks (d ++ r) (r.foldl maskTurn ms) := by
    intro r
    induction r with
    | nil => intro d ms h _; rw [List.append_nil]; exact h
    | cons w r ih =>
      intro d ms h k
      have z := ih (d ++ [w]) (maskTurn ms w) (h.turn (k w List.mem_cons_self)) fun b hb => k b (List.mem_cons_of_mem _ hb)
      rw [List.append_assoc] at z
      exact z
  have z : Masks [] [] := ⟨fun _ h => (nomatch h), List.Pairwise.nil, fun _ h => (nomatch h), fun _ _ h => (nomatch h), fun _ h => (nomatch h)⟩
  exact aux B [] [] z h

/-! ### the places of a word -/
def spots (m : Nat) : List Nat := (List.range 24).filter fun i => m.testBit i
theorem mem_spots {m i : Nat} (h : m < 2 ^ 24) : i ∈ spots m ↔ m.testBit i = true := by
  unfold spots
  rw [List.mem_filter, List.mem_range]
  constructor
  · exact fun h => h.2
  · intro k
    refine ⟨?_, k⟩
    rcases Nat.lt_or_ge i 24 with c | c
    · exact c
    · rw [Nat.testBit_lt_two_pow (Nat.lt_of_lt_of_le h (Nat.pow_le_pow_right (by decide) c))] at k; cases k
theorem spots_rise (m : Nat) : (spots m).Pairwise (· < ·) := List.pairwise_lt_range.sublist List.filter_sublist

/-! ### partings -/
structure Parting (n : Nat) (B : List Nat) (L : List (List Nat)) : Prop where
  rise : ∀ S, S ∈ L → S.Pairwise (· < ·)
  ne : ∀ S, S ∈ L → S ≠ []
  cover : L.flatten.Perm (List.range n)
  hold : ∀ b, b ∈ B → ∃ S, S ∈ L ∧ ∀ i, b.testBit i = true → i ∈ S
  conn : ∀ S, S ∈ L → ∀ T : Nat → Bool, (∀ b, b ∈ B → Clear T b) → (∀ i, i ∈ S → T i = true) ∨ (∀ i, i ∈ S → T i = false)
theorem Parting.perm {n : Nat} {B : List Nat} {L M : List (List Nat)} (h : Parting n B L) (p : M.Perm L) : Parting n B M :=
  ⟨fun S hS => h.rise S (p.mem_iff.mp hS), fun S hS => h.ne S (p.mem_iff.mp hS), p.flatten.trans h.cover, fun b hb => by
    obtain ⟨S, hS, k⟩ := h.hold b hb
    exact ⟨S, p.mem_iff.mpr hS, k⟩, fun S hS => h.conn S (p.mem_iff.mp hS)⟩
theorem perm_of_mem {l m : List Nat} (hl : l.Nodup) (hm : m.Nodup) (h : ∀ i, i ∈ l ↔ i ∈ m) : l.Perm m := by
  rw [List.perm_iff_count]
  intro i
  rw [hl.count, hm.count]
  simp only [h i]
/-- lots of a flat list without doubles -/
theorem flat_two {L : List (List Nat)} (h : L.flatten.Nodup) {S T : List Nat} (hS : S ∈ L) (hT : T ∈ L) {i : Nat} (a : i ∈ S) (b : i ∈ T) : S = T := by
  induction L with
  | nil => cases hS
  | cons A L ih =>
    rw [List.flatten_cons, List.nodup_append] at h
    obtain ⟨_, h2, h3⟩ := h
    rcases List.mem_cons.mp hS with e | hS'
    · rcases List.mem_cons.mp hT with f | hT'
      · rw [e, f]
      · exact absurd rfl (h3 i (e ▸ a) i (List.mem_flatten.mpr ⟨T, hT', b⟩))
    · rcases List.mem_cons.mp hT with f | hT'
      · exact absurd rfl (h3 i (f ▸ b) i (List.mem_flatten.mpr ⟨S, hS', a⟩))
      · exact ih h2 hS' hT'
theorem Parting.nodup {n : Nat} {B : List Nat} {L : List (List Nat)} (h : Parting n B L) : L.flatten.Nodup := h.cover.nodup_iff.mpr List.nodup_range
theorem rise_eq : ∀ {l m : List Nat}, l.Pairwise (· < ·) → m.Pairwise (· < ·) → (∀ i, i ∈ l ↔ i ∈ m) → l = m := by
  intro l m hl hm h
  have p := perm_of_mem (hl.imp fun h => Nat.ne_of_lt h) (hm.imp fun h => Nat.ne_of_lt h) h
  exact p.eq_of_pairwise (fun a b _ _ h1 h2 => absurd h1 (by omega)) hl hm
theorem parts_nodup {L : List (List Nat)} (h : L.flatten.Nodup) (ne : ∀ S, S ∈ L → S ≠ []) : L.Nodup := by
  induction L with
  | nil => exact .nil
  | cons A L ih =>
    have h' := h
    rw [List.flatten_cons, List.nodup_append] at h
    obtain ⟨_, h2, h3⟩ := h
    refine List.nodup_cons.mpr ⟨fun hA => ?_, ih h2 fun S hS => ne S (List.mem_cons_of_mem _ hS)⟩
    obtain ⟨i, r, e⟩ := List.exists_cons_of_ne_nil (ne A List.mem_cons_self)
    have hi : i ∈ A := by rw [e]; exact List.mem_cons_self
    exact absurd rfl (h3 i hi i (List.mem_flatten.mpr ⟨A, hA, hi⟩))
theorem Parting.sub {n : Nat} {B : List Nat} {L M : List (List Nat)} (h : Parting n B L) (k : Parting n B M) {S : List Nat} (hS : S ∈ L) : S ∈ M := by
  have key : ∀ {L M : List (List Nat)}, Parting n B L → Parting n B M → ∀ {S T i}, S ∈ L → T ∈ M → i ∈ S → i ∈ T → ∀ j, j ∈ S → j ∈ T := by
    intro L M h k S T i hS hT iS iT j hj
    have c : ∀ b, b ∈ B → Clear (fun i => decide (i ∈ T)) b := fun b hb => by
      obtain ⟨U, hU, kU⟩ := k.hold b hb
      by_cases e : U = T
      · left; intro i hi; rw [← e]; exact decide_eq_true (kU i hi)
      · right; intro i hi; exact decide_eq_false fun z => e (flat_two k.nodup hU hT (kU i hi) z)
    rcases h.conn S hS _ c with z | z
    · exact of_decide_eq_true (z j hj)
    · exact absurd iT (of_decide_eq_false (z i iS))
  obtain ⟨i, r, e⟩ := List.exists_cons_of_ne_nil (h.ne S hS)
  have iS : i ∈ S := by rw [e]; exact List.mem_cons_self
  have im : i ∈ M.flatten := k.cover.mem_iff.mpr (h.cover.mem_iff.mp (List.mem_flatten.mpr ⟨S, hS, iS⟩))
  obtain ⟨T, hT, iT⟩ := List.mem_flatten.mp im
  have e : S = T := rise_eq (h.rise S hS) (k.rise T hT) fun j => ⟨key h k hS hT iS iT j, key k h hT hS iT iS j⟩
  rw [e]; exact hT
/-- there is one finest parting -/
theorem Parting.one {n : Nat} {B : List Nat} {L M : List (List Nat)} (h : Parting n B L) (k : Parting n B M) : L.Perm M := by
  rw [List.perm_iff_count]
  intro S
  rw [(parts_nodup h.nodup h.ne).count, (parts_nodup k.nodup k.ne).count]
  have e : S ∈ L ↔ S ∈ M := ⟨h.sub k, k.sub h⟩
  simp only [e]
/-- sorted lists of lists, upwards -/
theorem sort_one {L M : List (List Int)} (p : L.Perm M) : L.mergeSort (fun a b => decide (a ≤ b)) = M.mergeSort (fun a b => decide (a ≤ b)) := by
  have tr : ∀ a b c : List Int, decide (a ≤ b) = true → decide (b ≤ c) = true → decide (a ≤ c) = true := fun a b c h k => by
    have h := of_decide_eq_true h; have k := of_decide_eq_true k
    exact decide_eq_true (List.le_trans h k)
  have tot : ∀ a b : List Int, (decide (a ≤ b) || decide (b ≤ a)) = true := fun a b => by
    rcases List.le_total a b with h | h
    · rw [decide_eq_true h]; rfl
    · rw [decide_eq_true h, Bool.or_true]
  refine List.Perm.eq_of_pairwise (le := fun a b => decide (a ≤ b) = true) (fun a b _ _ h1 h2 => List.le_antisymm (of_decide_eq_true h1) (of_decide_eq_true h2)) (List.pairwise_mergeSort tr tot L) (List.pairwise_mergeSort tr tot M) ?_
  exact (List.mergeSort_perm L _).trans (p.trans (List.mergeSort_perm M _).symm)

/-! ### the parts of a plain basis -/
def used (ms : List Nat) : Nat := ms.foldl (· ||| ·) 0
theorem used_bit : ∀ (ms : List Nat) (a i : Nat), (ms.foldl (· ||| ·) a).testBit i = true ↔ (a.testBit i = true ∨ ∃ m, m ∈ ms ∧ m.testBit i = true)
  | [], a, i => by simp
  | m :: ms, a, i => by
    rw [List.foldl_cons, used_bit ms, Nat.testBit_or, Bool.or_eq_true]
    constructor
    · rintro ((h | h) | ⟨m', a, b⟩)
      · exact .inl h
      · exact .inr ⟨m, List.mem_cons_self, h⟩
      · exact .inr ⟨m', List.mem_cons_of_mem _ a, b⟩
    · rintro (h | ⟨m', a, b⟩)
      · exact .inl (.inl h)
      · rcases List.mem_cons.mp a with e | a
        · exact .inl (.inr (e ▸ b))
        · exact .inr ⟨m', a, b⟩
def partsRaw (n : Nat) (B : List Nat) : List (List Nat) := (masksOf B).map spots ++ (spots ((2 ^ n - 1) ^^^ used (masksOf B))).map fun p => [p]
theorem or_lt {ms : List Nat} {a n : Nat} (ha : a < 2 ^ n) (h : ∀ m, m ∈ ms → m < 2 ^ n) : ms.foldl (· ||| ·) a < 2 ^ n := by
  induction ms generalizing a with
  | nil => exact ha
  | cons m ms ih => exact ih (Nat.or_lt_two_pow ha (h m List.mem_cons_self)) fun m hm => h m (List.mem_cons_of_mem _ hm)
theorem lt_of_bits {m n : Nat} (h : ∀ i, m.testBit i = true → i < n) : m < 2 ^ n := Nat.lt_pow_two_of_testBit _ fun i hi => by
  cases e : m.testBit i with
  | false => rfl
  | true => have := h i e; omega
theorem bit_lt {m n i : Nat} (h : m < 2 ^ n) (k : m.testBit i = true) : i < n := by
  rcases Nat.lt_or_ge i n with c | c
  · exact c
  · rw [Nat.testBit_lt_two_pow (Nat.lt_of_lt_of_le h (Nat.pow_le_pow_right (by decide) c))] at k; cases k
theorem parts_parting {n : Nat} {B : List Nat} (hn : n ≤ 24) (P : ∀ b, b ∈ B → b ≠ 0) (hB : ∀ b, b ∈ B → b < 2 ^ n) : Parting n B (partsRaw n B) := by
  have M := masks_of P
  unfold partsRaw
  generalize masksOf B = ms at *
  have mlt : ∀ m, m ∈ ms → m < 2 ^ n := fun m hm => lt_of_bits fun i hi => by
    obtain ⟨b, hb, k⟩ := M.from_ m i hm hi
    exact bit_lt (hB b hb) k
  have up : ∀ {x : Nat}, x < 2 ^ n → x < 2 ^ 24 := fun h => Nat.lt_of_lt_of_le h (Nat.pow_le_pow_right (by decide) hn)
  have full : 2 ^ n - 1 < 2 ^ n := by have := Nat.two_pow_pos n; omega
  have ult : used ms < 2 ^ n := or_lt (Nat.two_pow_pos n) mlt
  have ubit : ∀ i, (used ms).testBit i = true ↔ ∃ m, m ∈ ms ∧ m.testBit i = true := fun i => by
    unfold used; rw [used_bit]; simp
  have lone : ∀ i, i ∈ spots ((2 ^ n - 1) ^^^ used ms) ↔ i < n ∧ ∀ m, m ∈ ms → m.testBit i = false := fun i => by
    rw [mem_spots (up (Nat.xor_lt_two_pow full ult)), Nat.testBit_xor, Nat.testBit_two_pow_sub_one]
    constructor
    · intro h
      have hi : i < n := by
        rcases Nat.lt_or_ge i n with c | c
        · exact c
        · rw [decide_eq_false (by omega), Bool.false_xor] at h
          exact bit_lt ult h
      refine ⟨hi, fun m hm => ?_⟩
      rw [decide_eq_true hi, Bool.true_xor] at h
      cases e : m.testBit i with
      | false => rfl
      | true => rw [(ubit i).mpr ⟨m, hm, e⟩] at h; cases h
    · rintro ⟨hi, k⟩
      rw [decide_eq_true hi, Bool.true_xor]
      cases e : (used ms).testBit i with
      | false => rfl
      | true =>
        obtain ⟨m, hm, z⟩ := (ubit i).mp e
        rw [k m hm] at z; cases z
  have ms_sp : ∀ m, m ∈ ms → ∀ i, i ∈ spots m ↔ m.testBit i = true := fun m hm i => mem_spots (up (mlt m hm))
  refine ⟨fun S hS => ?_, fun S hS => ?_, ?_, fun b hb => ?_, fun S hS T hT => ?_⟩
  · rcases List.mem_append.mp hS with hS | hS
    · obtain ⟨m, _, rfl⟩ := List.mem_map.mp hS; exact spots_rise m
    · obtain ⟨p, _, rfl⟩ := List.mem_map.mp hS; exact List.pairwise_singleton _ _
  · rcases List.mem_append.mp hS with hS | hS
    · obtain ⟨m, hm, rfl⟩ := List.mem_map.mp hS
      obtain ⟨p, t⟩ := top_ex (M.pos m hm)
      exact List.ne_nil_of_mem ((ms_sp m hm p).mpr t.1)
    · obtain ⟨p, _, rfl⟩ := List.mem_map.mp hS; exact List.cons_ne_nil _ _
  · refine perm_of_mem ?_ List.nodup_range fun i => ?_
    · rw [List.flatten_append, List.nodup_append]
      refine ⟨?_, ?_, fun a ha b hb e => ?_⟩
      · refine List.pairwise_flatten.mpr ⟨fun S hS => ?_, ?_⟩
        · obtain ⟨m, _, rfl⟩ := List.mem_map.mp hS
          exact (spots_rise m).imp fun h => Nat.ne_of_lt h
        · refine List.pairwise_map.mpr (M.pw.imp_of_mem fun {a b} ha hb h x hx y hy e => ?_)
          subst e
          exact and_zero.mp h x ⟨(ms_sp a ha x).mp hx, (ms_sp b hb x).mp hy⟩
      · have e : ((spots ((2 ^ n - 1) ^^^ used ms)).map fun p => [p]).flatten = spots ((2 ^ n - 1) ^^^ used ms) := by
          generalize spots ((2 ^ n - 1) ^^^ used ms) = l
          induction l with
          | nil => rfl
          | cons a l ih => rw [List.map_cons, List.flatten_cons, ih]; rfl
        rw [e]
        exact (spots_rise _).imp fun h => Nat.ne_of_lt h
      · subst e
        obtain ⟨S, hS, aS⟩ := List.mem_flatten.mp ha
        obtain ⟨m, hm, rfl⟩ := List.mem_map.mp hS
        obtain ⟨S, hS, bS⟩ := List.mem_flatten.mp hb
        obtain ⟨p, hp, rfl⟩ := List.mem_map.mp hS
        have e := List.mem_singleton.mp bS
        rw [← e] at hp
        have z := ((lone a).mp hp).2 m hm
        rw [(ms_sp m hm a).mp aS] at z; cases z
    · rw [List.mem_range, List.flatten_append, List.mem_append]
      constructor
      · rintro (h | h)
        · obtain ⟨S, hS, aS⟩ := List.mem_flatten.mp h
          obtain ⟨m, hm, rfl⟩ := List.mem_map.mp hS
          exact bit_lt (mlt m hm) ((ms_sp m hm i).mp aS)
        · obtain ⟨S, hS, aS⟩ := List.mem_flatten.mp h
          obtain ⟨p, hp, rfl⟩ := List.mem_map.mp hS
          rw [List.mem_singleton.mp aS]
          exact ((lone p).mp hp).1
      · intro hi
        by_cases e : ∃ m, m ∈ ms ∧ m.testBit i = true
        · obtain ⟨m, hm, k⟩ := e
          exact .inl (List.mem_flatten.mpr ⟨_, List.mem_map.mpr ⟨m, hm, rfl⟩, (ms_sp m hm i).mpr k⟩)
        · right
          refine List.mem_flatten.mpr ⟨[i], List.mem_map.mpr ⟨i, (lone i).mpr ⟨hi, fun m hm => ?_⟩, rfl⟩, List.mem_singleton.mpr rfl⟩
          cases k : m.testBit i with
          | false => rfl
          | true => exact absurd ⟨m, hm, k⟩ e
  · obtain ⟨m, hm, k⟩ := M.hold b hb
    exact ⟨spots m, List.mem_append.mpr (.inl (List.mem_map.mpr ⟨m, hm, rfl⟩)), fun i hi => (ms_sp m hm i).mpr (k i hi)⟩
  · rcases List.mem_append.mp hS with hS | hS
    · obtain ⟨m, hm, rfl⟩ := List.mem_map.mp hS
      rcases M.conn m hm T hT with c | c
      · exact .inl fun i hi => c i ((ms_sp m hm i).mp hi)
      · exact .inr fun i hi => c i ((ms_sp m hm i).mp hi)
    · obtain ⟨p, _, rfl⟩ := List.mem_map.mp hS
      cases e : T p with
      | true => exact .inl fun i hi => by rw [List.mem_singleton.mp hi]; exact e
      | false => exact .inr fun i hi => by rw [List.mem_singleton.mp hi]; exact e
end K71
namespace K7
open PySem PySem.Spec PyProof.Rows L2 Evl
/-! ### the text by places -/
def topS (i : Nat) : Stmt := PySem.Challenge.pw_owncontraries_k71_whole_parts_of_rooms.main.body.getD i (.Pass ⟨0, 0, 0, 0⟩)
abbrev s_is_integer : Stmt := topS 10
theorem sc_is_integer : FnScope ["value"] ["value"] (defScope s_is_integer) := ⟨rfl, rfl, rfl, by decide +kernel, rfl, by decide +kernel, by decide +kernel⟩
abbrev s_is_count : Stmt := topS 11
theorem sc_is_count : FnScope ["value"] ["value"] (defScope s_is_count) := ⟨rfl, rfl, rfl, by decide +kernel, rfl, by decide +kernel, by decide +kernel⟩
abbrev s_is_list : Stmt := topS 12
theorem sc_is_list : FnScope ["value"] ["value"] (defScope s_is_list) := ⟨rfl, rfl, rfl, by decide +kernel, rfl, by decide +kernel, by decide +kernel⟩
abbrev s_is_places : Stmt := topS 13
theorem sc_is_places : FnScope ["value"] ["value"] (defScope s_is_places) := ⟨rfl, rfl, rfl, by decide +kernel, rfl, by decide +kernel, by decide +kernel⟩
abbrev s_want_places : Stmt := topS 14
theorem sc_want_places : FnScope ["value"] ["value"] (defScope s_want_places) := ⟨rfl, rfl, rfl, by decide +kernel, rfl, by decide +kernel, by decide +kernel⟩
abbrev s_left_of : Stmt := topS 19
theorem sc_left_of : FnScope ["basis", "word", "one"] ["basis", "word"] (defScope s_left_of) := ⟨rfl, rfl, rfl, by decide +kernel, rfl, by decide +kernel, by decide +kernel⟩
abbrev s_with_word : Stmt := topS 20
theorem sc_with_word : FnScope ["basis", "word", "left", "one"] ["basis", "word"] (defScope s_with_word) := ⟨rfl, rfl, rfl, by decide +kernel, rfl, by decide +kernel, by decide +kernel⟩
abbrev s_plain_basis : Stmt := topS 21
theorem sc_plain_basis : FnScope ["words", "found", "word"] ["words"] (defScope s_plain_basis) := ⟨rfl, rfl, rfl, by decide +kernel, rfl, by decide +kernel, by decide +kernel⟩
abbrev s_Told_init : Stmt := inClass (topS 23) 0
theorem sc_Told_init : FnScope ["self", "places", "basis"] ["self", "places", "basis"] (defScope s_Told_init) := ⟨rfl, rfl, rfl, by decide +kernel, rfl, by decide +kernel, by decide +kernel⟩
abbrev s_told_room : Stmt := topS 24
theorem sc_told_room : FnScope ["places", "words", "position", "word"] ["places", "words"] (defScope s_told_room) := ⟨rfl, rfl, rfl, by decide +kernel, rfl, by decide +kernel, by decide +kernel⟩
abbrev s_Room_init : Stmt := inClass (topS 25) 0
theorem sc_Room_init : FnScope ["self", "places", "words", "told"] ["self", "places", "words"] (defScope s_Room_init) := ⟨rfl, rfl, rfl, by decide +kernel, rfl, by decide +kernel, by decide +kernel⟩
abbrev s_want_room : Stmt := topS 26
theorem sc_want_room : FnScope ["value"] ["value"] (defScope s_want_room) := ⟨rfl, rfl, rfl, by decide +kernel, rfl, by decide +kernel, by decide +kernel⟩
abbrev s_spots_of : Stmt := topS 29
theorem sc_spots_of : FnScope ["word", "place"] ["word"] (defScope s_spots_of) := ⟨rfl, rfl, rfl, by decide +kernel, rfl, by decide +kernel, by decide +kernel⟩
abbrev s_all_on : Stmt := topS 30
theorem sc_all_on : FnScope ["places"] ["places"] (defScope s_all_on) := ⟨rfl, rfl, rfl, by decide +kernel, rfl, by decide +kernel, by decide +kernel⟩
abbrev s_masks_of : Stmt := topS 32
theorem sc_masks_of : FnScope ["basis", "found", "word", "part", "apart", "mask"] ["basis"] (defScope s_masks_of) := ⟨rfl, rfl, rfl, by decide +kernel, rfl, by decide +kernel, by decide +kernel⟩
abbrev s_parts_of : Stmt := topS 33
theorem sc_parts_of : FnScope ["places", "basis", "masks", "used", "mask", "lone", "place"] ["places", "basis"] (defScope s_parts_of) := ⟨rfl, rfl, rfl, by decide +kernel, rfl, by decide +kernel, by decide +kernel⟩
abbrev s_parts : Stmt := topS 34
theorem sc_parts : FnScope ["room"] ["room"] (defScope s_parts) := ⟨rfl, rfl, rfl, by decide +kernel, rfl, by decide +kernel, by decide +kernel⟩
abbrev s_l_pot : Stmt := topS 36
theorem sc_l_pot : FnScope ["_law_script", "_law_k", "_law_cell"] ["_law_script", "_law_k"] (defScope s_l_pot) := ⟨rfl, rfl, rfl, by decide +kernel, rfl, by decide +kernel, by decide +kernel⟩
abbrev s_l_draw : Stmt := topS 37
theorem sc_l_draw : FnScope ["_law_pot_here", "_law_size", "_law_digit"] ["_law_pot_here", "_law_size"] (defScope s_l_draw) := ⟨rfl, rfl, rfl, by decide +kernel, rfl, by decide +kernel, by decide +kernel⟩
abbrev s_l_pick : Stmt := topS 38
theorem sc_l_pick : FnScope ["_law_pot_here", "_law_some"] ["_law_pot_here", "_law_some"] (defScope s_l_pick) := ⟨rfl, rfl, rfl, by decide +kernel, rfl, by decide +kernel, by decide +kernel⟩
abbrev s_l_word : Stmt := topS 39
theorem sc_l_word : FnScope ["_law_spots", "_law_spot"] ["_law_spots"] (defScope s_l_word) := ⟨rfl, rfl, rfl, by decide +kernel, rfl, by decide +kernel, by decide +kernel⟩
abbrev s_l_span : Stmt := topS 40
theorem sc_l_span : FnScope ["_law_words", "_law_found", "_law_word_here", "_law_old"] ["_law_words"] (defScope s_l_span) := ⟨rfl, rfl, rfl, by decide +kernel, rfl, by decide +kernel, by decide +kernel⟩
abbrev s_l_led : Stmt := topS 41
theorem sc_l_led : FnScope ["_law_word_here", "_law_sequence_here", "_law_at"] ["_law_word_here", "_law_sequence_here"] (defScope s_l_led) := ⟨rfl, rfl, rfl, by decide +kernel, rfl, by decide +kernel, by decide +kernel⟩
abbrev s_l_sequence : Stmt := topS 42
theorem sc_l_sequence : FnScope ["_law_pot_here", "_law_places", "_law_left", "_law_found", "_law_turn"] ["_law_pot_here", "_law_places"] (defScope s_l_sequence) := ⟨rfl, rfl, rfl, by decide +kernel, rfl, by decide +kernel, by decide +kernel⟩
abbrev s_l_pieces : Stmt := topS 43
theorem sc_l_pieces : FnScope ["_law_found"] [] (defScope s_l_pieces) := ⟨rfl, rfl, rfl, by decide +kernel, rfl, by decide +kernel, by decide +kernel⟩
abbrev s_l_beside : Stmt := topS 44
theorem sc_l_beside : FnScope ["_law_pot_here", "_law_names", "_law_most", "_law_some", "_law_one", "_law_places", "_law_words", "_law_told", "_law_turn", "_law_name", "_law_wide", "_law_piece", "_law_exchanges", "_law_word_here"] ["_law_pot_here", "_law_names", "_law_most"] (defScope s_l_beside) := ⟨rfl, rfl, rfl, by decide +kernel, rfl, by decide +kernel, by decide +kernel⟩
abbrev s_l_room : Stmt := topS 45
theorem sc_l_room : FnScope ["_law_pot_here", "_law_names", "_law_most", "_law_places", "_law_words", "_law_told", "_law_sequence_here", "_law_lots", "_law_name", "_law_first", "_law_wide", "_law_exchanges", "_law_word_here"] ["_law_pot_here", "_law_names", "_law_most"] (defScope s_l_room) := ⟨rfl, rfl, rfl, by decide +kernel, rfl, by decide +kernel, by decide +kernel⟩
abbrev s_l_free : Stmt := topS 46
theorem sc_l_free : FnScope ["_law_words", "_law_found", "_law_many"] ["_law_words"] (defScope s_l_free) := ⟨rfl, rfl, rfl, by decide +kernel, rfl, by decide +kernel, by decide +kernel⟩
abbrev s_l_within : Stmt := topS 47
theorem sc_l_within : FnScope ["_law_words", "_law_spots", "_law_inside", "_law_word_here"] ["_law_words", "_law_spots"] (defScope s_l_within) := ⟨rfl, rfl, rfl, by decide +kernel, rfl, by decide +kernel, by decide +kernel⟩
abbrev s_l_drawn_right : Stmt := topS 48
theorem sc_l_drawn_right : FnScope ["_law_pot_here", "_law_places", "_law_words", "_law_turn", "_law_told", "_law_whole", "_law_flat", "_law_spots", "_law_many", "_law_code", "_law_near", "_law_at", "_law_far", "_law_spot"] ["_law_pot_here"] (defScope s_l_drawn_right) := ⟨rfl, rfl, rfl, by decide +kernel, rfl, by decide +kernel, by decide +kernel⟩
abbrev s_l_right : Stmt := topS 49
theorem sc_l_right : FnScope ["_law_pot_here", "_law_places", "_law_words", "_law_lots", "_law_sequence_here", "_law_due", "_law_name", "_law_spots", "_law_exchanges", "_law_room_here", "_law_told"] ["_law_pot_here"] (defScope s_l_right) := ⟨rfl, rfl, rfl, by decide +kernel, rfl, by decide +kernel, by decide +kernel⟩
abbrev s_law : Stmt := topS 50
theorem sc_law : FnScope ["_law_script"] ["_law_script"] (defScope s_law) := ⟨rfl, rfl, rfl, by decide +kernel, rfl, by decide +kernel, by decide +kernel⟩
/-! ### a def that keeps a promise, with all that its callers want -/
structure Df (K : PySem.W.Frag) (mg : Str → Option Value) (x : Str) (st : Stmt) : Prop where
  ex : ∃ (f : Addr) (fd : FuncData), mg x = some (.ref f) ∧ Fun K x x st f fd
structure Ok (P : Program) (w : World) (K : PySem.W.Frag) (mg : Str → Option Value) (base : Heap) (k : Nat) (x : Str) (ps : List Str) (sp : Sp) : Prop where
  ex : ∃ (f : Addr) (fd : FuncData), mg x = some (.ref f) ∧ PySem.W.keepIn K (.ref f) = true ∧ Binds K fd ps [] ∧ FnOk P w K mg base CX0 k f fd ps sp
/-- the builtins' names are free -/
structure Free (mg : Str → Option Value) : Prop where
  len : mg "len" = none
  sum : mg "sum" = none
  sorted : mg "sorted" = none
  range : mg "range" = none
  min : mg "min" = none
  max : mg "max" = none
  abs : mg "abs" = none
  int : mg "int" = none
  divmod : mg "divmod" = none
  enumerate : mg "enumerate" = none
  isinstance : mg "isinstance" = none
  list : mg "list" = none
  tuple : mg "tuple" = none
  bool : mg "bool" = none
section
variable {P : Program} {w : World} {K : PySem.W.Frag} {mg : Str → Option Value} {base : Heap}
theorem ok_mk {x : Str} {st : Stmt} {ps : List Str} {k : Nat} {sp : Sp} (D : Df K mg x st) (hb : ∀ f fd, Fun K x x st f fd → Binds K fd ps []) (h : ∀ f fd, Fun K x x st f fd → FnOk P w K mg base CX0 k f fd ps sp) : Ok P w K mg base k x ps sp := by
  obtain ⟨f, fd, g, F⟩ := D.ex
  exact ⟨f, fd, g, F.kp, hb f fd F, h f fd F⟩
end
/-! ### numbers that are not negative -/
def nv (n : Nat) : V := .int (n : Int)
def nvs (ns : List Nat) : List V := ns.map nv
end K7
namespace K7
open PySem PySem.Spec PyProof.Rows L2 Evl
/-! ### numbers that are not negative, operators -/
theorem nv_inj {a b : Nat} (h : nv a = nv b) : a = b := by
  have := V.int.inj h
  omega
theorem nv_dec (a b : Nat) : decide (nv a = nv b) = decide (a = b) := by
  by_cases h : a = b
  · subst h; rw [decide_eq_true rfl, decide_eq_true rfl]
  · rw [decide_eq_false h, decide_eq_false fun e => h (nv_inj e)]
section
variable {K : PySem.W.Frag} {σ : L2.St} {H H' : Hp} {ta tb te tx : TE} {t u : TT} {x y z v : V} {r : R2}
theorem rv_I0e {g : Int → Int → V} {i j : Int} (e : g i j = z) : RV (rI0 g) (.int i) (.int j) H z := e ▸ rv_I0
theorem rv_Ie {C : Int → Int → Prop} {g : Int → Int → V} {i j : Int} (hc : C i j) (e : g i j = z) : RV (rI C g) (.int i) (.int j) H z := e ▸ rv_I hc
theorem bitX (a b : Nat) : Builtin.bitXor (a : Int) (b : Int) = ((a ^^^ b : Nat) : Int) := Bits.bitXor_pp (Int.natCast_nonneg a) (Int.natCast_nonneg b)
theorem bitO (a b : Nat) : Builtin.bitOr (a : Int) (b : Int) = ((a ||| b : Nat) : Int) := Bits.bitOr_pp (Int.natCast_nonneg a) (Int.natCast_nonneg b)
theorem bitA (a b : Nat) : Builtin.bitAnd (a : Int) (b : Int) = ((a &&& b : Nat) : Int) := bitAnd_pp (Int.natCast_nonneg a) (Int.natCast_nonneg b)
theorem rv_xor {a b : Nat} : RV (rI0 fun i j => .int (Builtin.bitXor i j)) (nv a) (nv b) H (nv (a ^^^ b)) := rv_I0e (congrArg V.int (bitX a b))
theorem rv_or {a b : Nat} : RV (rI0 fun i j => .int (Builtin.bitOr i j)) (nv a) (nv b) H (nv (a ||| b)) := rv_I0e (congrArg V.int (bitO a b))
theorem rv_and {a b : Nat} : RV (rI0 fun i j => .int (Builtin.bitAnd i j)) (nv a) (nv b) H (nv (a &&& b)) := rv_I0e (congrArg V.int (bitA a b))
theorem rv_shr {a k : Nat} : RV (rI (fun _ j => 0 ≤ j) fun i j => .int (i / 2 ^ j.toNat)) (nv a) (nv k) H (nv (a >>> k)) := rv_Ie (Int.natCast_nonneg k) (congrArg V.int (by
    rw [Int.toNat_natCast, Nat.shiftRight_eq_div_pow, Int.natCast_ediv, Int.natCast_pow]; rfl))
theorem rv_shl {a k : Nat} (ha : a < 2 ^ 64) (hk : k ≤ 1000000) : RV (rI CPow fun i j => .int (i * 2 ^ j.toNat)) (nv a) (nv k) H (nv (a * 2 ^ k)) :=
  rv_Ie ⟨Int.natCast_nonneg k, by omega, by rw [Int.natAbs_natCast]; exact ha⟩ (congrArg V.int (by
    rw [Int.toNat_natCast, Int.natCast_mul, Int.natCast_pow]; rfl))
theorem rv_addN {a b : Nat} : RV (rI0 fun i j => .int (i + j)) (nv a) (nv b) H (nv (a + b)) := rv_I0e (congrArg V.int (by omega))
theorem rv_subN {a b : Nat} (h : b ≤ a) : RV (rI0 fun i j => .int (i - j)) (nv a) (nv b) H (nv (a - b)) := rv_I0e (congrArg V.int (by omega))
theorem rv_mulN {a b : Nat} (h : a < 2 ^ 64) : RV (rI CMul fun i j => .int (i * j)) (nv a) (nv b) H (nv (a * b)) := rv_Ie (.inl ⟨by omega, by omega⟩) (congrArg V.int (Int.natCast_mul a b).symm)
theorem rv_modN {a b : Nat} (h : 0 < b) : RV (rI (fun _ j => 0 < j) fun i j => .int (i % j)) (nv a) (nv b) H (nv (a % b)) := rv_Ie (by omega) rfl
theorem rv_divN {a b : Nat} (h : 0 < b) (k : b < 1073741824) : RV (rI CDiv fun i j => .int (i / j)) (nv a) (nv b) H (nv (a / b)) := rv_Ie ⟨by omega, by omega⟩ rfl
theorem rv_leN {a b : Nat} : RV (rI0 fun i j => .bl (decide (i ≤ j))) (nv a) (nv b) H (.bl (decide (a ≤ b))) := rv_I0e (congrArg V.bl (decide_eq_decide.mpr (by omega)))
theorem rv_ltN {a b : Nat} : RV (rI0 fun i j => .bl (decide (i < j))) (nv a) (nv b) H (.bl (decide (a < b))) := rv_I0e (congrArg V.bl (decide_eq_decide.mpr (by omega)))
theorem rv_gtN {a b : Nat} : RV (rI0 fun i j => .bl (decide (j < i))) (nv a) (nv b) H (.bl (decide (b < a))) := rv_I0e (congrArg V.bl (decide_eq_decide.mpr (by omega)))
theorem rv_geN {a b : Nat} : RV (rI0 fun i j => .bl (decide (j ≤ i))) (nv a) (nv b) H (.bl (decide (b ≤ a))) := rv_I0e (congrArg V.bl (decide_eq_decide.mpr (by omega)))
theorem rv_eqN {a b : Nat} : RV rEq (nv a) (nv b) H (.bl (decide (a = b))) := by
  rw [← nv_dec]
  exact rv_eq rfl
theorem rv_neN {a b : Nat} : RV rNe (nv a) (nv b) H (.bl (!decide (a = b))) := by
  rw [← nv_dec]
  exact rv_ne rfl
theorem rc_min {a b : Nat} : RC (fun xs H Q => ∃ i j, xs = [.int i, .int j] ∧ Q (.int (if j < i then j else i)) H) [nv a, nv b] H (nv (min a b)) := fun H1 _ _ q => ⟨_, _, rfl, by
  have e : (if (b : Int) < (a : Int) then (b : Int) else (a : Int)) = ((min a b : Nat) : Int) := by
    split <;> omega
  rw [e]
  exact q H1 (Ex.refl H1)⟩
theorem rc_isi {c : V} {tt uu : Value} {b : Bool} (hc : ClsV c uu) (hx : ∀ H1, Ex H H1 → TyX K H1 x tt) (hk : PySem.W.kitOne K tt uu = some b) : RC (rIsi K) [x, c] H (.bl b) := fun H1 e _ q => ⟨x, c, tt, uu, b, rfl, hc, hx H1 e, hk, q H1 (Ex.refl H1)⟩
end
section
variable {P : Program} {w : World} {K : PySem.W.Frag} {mg : Str → Option Value} {base : Heap}
/-! ### basics.py -/
def spTrue (p : V → Hp → Prop) : Sp := fun vs H Q _ => ∃ v, vs = [v] ∧ p v H ∧ RetV (.bl true) H Q
theorem spv_true {p : V → Hp → Prop} {v : V} {H : Hp} (h : ∀ H1, Ex H H1 → p v H1) : SpV (spTrue p) [v] H (.bl true) := fun H1 e Q q _ => ⟨v, rfl, h H1 e, q⟩
theorem ok_is_integer (D : Df K mg "is_integer" s_is_integer) (T : Free mg) : Ok P w K mg base 1 "is_integer" ["value"] (spTrue fun v _ => ∃ i, v = .int i) := by
  refine ok_mk D (fun f fd F => F.binds fun _ _ _ _ _ _ us hl => match us, hl with | [_], _ => rfl) fun f fd F => F.ok sc_is_integer (fun vs H Q E h => ?_) (fun cdv A outer s H vs Q E hr h => ?_)
  · obtain ⟨v, rfl, _⟩ := h; rfl
  · obtain ⟨v, rfl, ⟨i, rfl⟩, q⟩ := h
    refine ⟨_, pss_one (ps_ret (pe_and (pe_callB call_isi (by rfl) T.isinstance (by decide +kernel) (pa_cons (pv 0) (pa_cons (pe_bltn (v := .ty "int") (u := .type "int") (by rfl) T.int (by decide +kernel) rfl) pa_nil)))
      (pe_one (pe_not (pe_callB call_isi (by rfl) T.isinstance (by decide +kernel) (pa_cons (pv 0) (pa_cons (pe_bltn (v := .ty "bool") (u := .type "bool") (by rfl) T.bool (by decide +kernel) rfl) pa_nil))))))), ?_⟩
    exact s_ret (v := .bl true) (ev_andV (a := true) (b := true) (ev_cb (ea_cons (ev_var rfl) (ea_cons ev_c ea_nil)) (rc_isi (b := true) (.ty "int") (fun _ _ => .base (.int i)) (kit_ty (by decide +kernel)))) fun _ =>
      ev_notV (a := false) (ev_cb (ea_cons (ev_var rfl) (ea_cons ev_c ea_nil)) (rc_isi (b := false) (.ty "bool") (fun _ _ => .base (.int i)) (kit_ty (by decide +kernel))))) q
theorem ok_is_count (D : Df K mg "is_count" s_is_count) (O : Ok P w K mg base 1 "is_integer" ["value"] (spTrue fun v _ => ∃ i, v = .int i)) : Ok P w K mg base 2 "is_count" ["value"] (spTrue fun v _ => ∃ n, v = nv n) := by
  refine ok_mk D (fun f fd F => F.binds fun _ _ _ _ _ _ us hl => match us, hl with | [_], _ => rfl) fun f fd F => F.ok sc_is_count (fun vs H Q E h => ?_) (fun cdv A outer s H vs Q E hr h => ?_)
  · obtain ⟨v, rfl, _⟩ := h; rfl
  · obtain ⟨v, rfl, ⟨n, rfl⟩, q⟩ := h
    obtain ⟨f1, fd1, g1, k1, b1, G1⟩ := O.ex
    refine ⟨_, pss_one (ps_ret (pe_and (pe_call G1 hr (by rfl) g1 k1 b1 .nil pass0 (pa_cons (pv 0) pa_nil)) (pe_one (pe_cmpR op_ge (pv 0) pe_int (nomark _))))), ?_⟩
    exact s_ret (v := .bl true) (ev_andV (a := true) (b := true) (ev_call (ea_cons (ev_var rfl) ea_nil) (spv_true fun _ _ => ⟨_, rfl⟩)) fun _ =>
      ev_is (ev_op (y := nv 0) (ev_var rfl) ev_c rv_geN) (congrArg V.bl (decide_eq_true (Nat.zero_le _)))) q
theorem ok_is_places (D : Df K mg "is_places" s_is_places) (gP : ∃ t, mg "MOST_PLACES" = some (.int 24 t)) (O : Ok P w K mg base 2 "is_count" ["value"] (spTrue fun v _ => ∃ n, v = nv n)) : Ok P w K mg base 3 "is_places" ["value"] (spTrue fun v _ => ∃ n, 1 ≤ n ∧ n ≤ 24 ∧ v = nv n) := by
  refine ok_mk D (fun f fd F => F.binds fun _ _ _ _ _ _ us hl => match us, hl with | [_], _ => rfl) fun f fd F => F.ok sc_is_places (fun vs H Q E h => ?_) (fun cdv A outer s H vs Q E hr h => ?_)
  · obtain ⟨v, rfl, _⟩ := h; rfl
  · obtain ⟨v, rfl, ⟨n, h1, h2, rfl⟩, q⟩ := h
    obtain ⟨f1, fd1, g1, k1, b1, G1⟩ := O.ex
    obtain ⟨t, gP⟩ := gP
    refine ⟨_, pss_one (ps_ret (pe_and (pe_call G1 hr (by rfl) g1 k1 b1 .nil pass0 (pa_cons (pv 0) pa_nil)) (pe_one (pe_chain op_le op_le pe_int (pv 0) (pe_glob (v := nv 24) (by rfl) gP ⟨_, rfl⟩))))), ?_⟩
    refine s_ret (v := .bl true) (ev_andV (a := true) (b := true) (ev_call (ea_cons (ev_var rfl) ea_nil) (spv_true fun _ _ => ⟨_, rfl⟩)) fun _ => ?_) q
    intro H1 e Q q
    refine ⟨_, rfl, ?_⟩
    refine rv_leN (a := 1) (b := n) H1 (Ex.refl H1) _ fun H2 e2 => ⟨_, rfl, ?_⟩
    rw [decide_eq_true h1]
    refine rv_leN (a := n) (b := 24) H2 (Ex.refl H2) _ fun H3 e3 => ?_
    rw [decide_eq_true h2]
    exact q _ (e2.trans e3)
end
end K7
namespace K7
open PySem PySem.Spec PyProof.Rows L2 Evl K71
section
variable {P : Program} {w : World} {K : PySem.W.Frag} {mg : Str → Option Value} {base : Heap}
def spNone (p : V → Hp → Prop) : Sp := fun vs H Q _ => ∃ v, vs = [v] ∧ p v H ∧ RetV .non H Q
theorem spv_none {p : V → Hp → Prop} {v : V} {H : Hp} (h : ∀ H1, Ex H H1 → p v H1) : SpV (spNone p) [v] H .non := fun H1 e Q q _ => ⟨v, rfl, h H1 e, q⟩
abbrev isPl : V → Hp → Prop := fun v _ => ∃ n, 1 ≤ n ∧ n ≤ 24 ∧ v = nv n
theorem ok_want_places (D : Df K mg "want_places" s_want_places) (O : Ok P w K mg base 3 "is_places" ["value"] (spTrue isPl)) : Ok P w K mg base 4 "want_places" ["value"] (spNone isPl) := by
  refine ok_mk D (fun f fd F => F.binds fun _ _ _ _ _ _ us hl => match us, hl with | [_], _ => rfl) fun f fd F => F.ok sc_want_places (fun vs H Q E h => ?_) (fun cdv A outer s H vs Q E hr h => ?_)
  · obtain ⟨v, rfl, _⟩ := h; rfl
  · obtain ⟨v, rfl, hp, q⟩ := h
    obtain ⟨f1, fd1, g1, k1, b1, G1⟩ := O.ex
    refine ⟨_, pss_one (ps_if (pt_not (pt_val (pe_call G1 hr (by rfl) g1 k1 b1 .nil pass0 (pa_cons (pv 0) pa_nil)))) (pss_one ps_never) pss_nil), ?_⟩
    exact s_when (b := false) (et_not (a := true) (et_B (ev_call (ea_cons (ev_var rfl) ea_nil) (spv_true fun _ _ => hp)))) (fun h => nomatch h) (fun _ H1 e => q H1 e)
/-- a list -/
abbrev isLs : V → Hp → Prop := fun v H => ∃ a xs, v = .ref a ∧ H a = some (.lst xs)
theorem ok_is_list (D : Df K mg "is_list" s_is_list) (T : Free mg) : Ok P w K mg base 1 "is_list" ["value"] (spTrue isLs) := by
  refine ok_mk D (fun f fd F => F.binds fun _ _ _ _ _ _ us hl => match us, hl with | [_], _ => rfl) fun f fd F => F.ok sc_is_list (fun vs H Q E h => ?_) (fun cdv A outer s H vs Q E hr h => ?_)
  · obtain ⟨v, rfl, _⟩ := h; rfl
  · obtain ⟨v, rfl, ⟨a, xs, rfl, ha⟩, q⟩ := h
    refine ⟨_, pss_one (ps_ret (pe_callB call_isiT (by rfl) T.isinstance (by decide +kernel) (pa_cons (pv 0) (pa_cons (pe_tup (pa_cons (pe_bltn (v := .ty "list") (u := .type "list") (by rfl) T.list (by decide +kernel) rfl)
      (pa_cons (pe_bltn (v := .ty "tuple") (u := .type "tuple") (by rfl) T.tuple (by decide +kernel) rfl) pa_nil))) pa_nil)))), ?_⟩
    refine ⟨.ref a, rfl, (by show 2 ≤ sizeLine; decide), fun tp ntp => ?_⟩
    exact ⟨.ref a, tp, _, .type "list", [.type "list", .type "tuple"], true, rfl, upd_same, .cons (.ty _) (.cons (.ty _) .nil), .base (.lst (by rw [upd_ne (ne_of_none ha ntp)]; exact ha)),
      kitAny_cons (b := true) (kit_ty (by decide +kernel)) (fun h => nomatch h) (fun _ => rfl), q _ (Ex.new ntp)⟩
/-! ### rooms.py -/
theorem nvs_get {ns : List Nat} {i : Nat} {x : V} (h : (nvs ns)[i]? = some x) : ∃ n, ns[i]? = some n ∧ x = nv n := by
  unfold nvs at h
  rw [List.getElem?_map] at h
  cases e : ns[i]? with
  | none => rw [e] at h; cases h
  | some n => rw [e] at h; exact ⟨n, rfl, (Option.some.inj h).symm⟩
theorem take_snoc {α : Type} {l : List α} {i : Nat} {x : α} (h : l[i]? = some x) : l.take (i + 1) = l.take i ++ [x] := by
  rw [List.take_add_one, h]; rfl
theorem left_snoc {B : List Nat} {i w o : Nat} (h : B[i]? = some o) : leftOf (B.take (i + 1)) w = min (leftOf (B.take i) w) (leftOf (B.take i) w ^^^ o) := by
  unfold leftOf
  rw [take_snoc h, List.foldl_append]; rfl
def spLeft (K : PySem.W.Frag) : Sp := fun vs H Q _ => ∃ a B n, vs = [.ref a, nv n] ∧ SqT K H a (nvs B) ∧ RetV (nv (leftOf B n)) H Q
theorem ok_left_of (D : Df K mg "left_of" s_left_of) (T : Free mg) : Ok P w K mg base 1 "left_of" ["basis", "word"] (spLeft K) := by
  refine ok_mk D (fun f fd F => F.binds fun _ _ _ _ _ _ us hl => match us, hl with | [_, _], _ => rfl) fun f fd F => F.ok sc_left_of (fun vs H Q E h => ?_) (fun cdv A outer s H vs Q E hr h => ?_)
  · obtain ⟨a, B, n, rfl, _⟩ := h; rfl
  · obtain ⟨a, B, n, rfl, hB, q⟩ := h
    refine ⟨_, pss_cons (ps_for PassesOwn.never rfl (pi_tup (pv 0)) (pg_name (i := 2) sc_left_of.nd rfl (.inl rfl))
      (pss_one (ps_set (i := 1) sc_left_of.nd rfl (.inl rfl) (pe_callB (call_min2 rfl) (by rfl) T.min (by decide +kernel) (pa_cons (pv 1) (pa_cons (pe_op op_xor (pv 1) (pv 2)) pa_nil))))))
      (pss_one (ps_ret (pv 1))), ?_⟩
    refine q_forT (ev_var rfl) hB (fun i σ' H' => ∃ y, σ' = [some (.ref a), some (nv (leftOf (B.take i) n)), y] ∧ Ex H H') (fun H1 e => ⟨none, rfl, e⟩) (fun i σ' H' _ ⟨y, _, e⟩ => ex_t e hB) ?_ ?_
    · rintro i x σ' H' hx ⟨y, rfl, e⟩
      obtain ⟨o, ho, rfl⟩ := nvs_get hx
      refine s_asg (ev_cb (ea_cons (ev_var rfl) (ea_cons (ev_op (ev_var rfl) (ev_var rfl) rv_xor) ea_nil)) rc_min) fun H1 e1 => ⟨some (nv o), by rw [left_snoc ho]; rfl, e.trans e1⟩
    · rintro σ' H' ⟨y, rfl, e⟩
      have ht : B.take (nvs B).length = B := List.take_of_length_le (by unfold nvs; rw [List.length_map]; exact Nat.le_refl _)
      rw [ht]
      exact s_ret (ev_var rfl) fun H1 e1 => q H1 (e.trans e1)
end
end K7
namespace K7
open PySem PySem.Spec PyProof.Rows L2 Evl K71
/-! ### comprehensions, told by what is walked -/
theorem given_map {α : Type} (l : List α) (p : α → Bool) (φ : α → V) (d : α) : given l.length (fun i => p (l.getD i d)) (fun i => φ (l.getD i d)) = (l.filter p).map φ := by
  unfold given
  have e : (List.range l.length).map (fun i => l.getD i d) = l := by
    apply List.ext_getElem (by simp)
    intro i h1 h2
    simp
    rw [List.getElem?_eq_getElem h2]; rfl
  have e2 : ((List.range l.length).filter fun i => p (l.getD i d)).map (fun i => φ (l.getD i d)) = ((((List.range l.length).map fun i => l.getD i d).filter p).map φ) := by
    rw [List.filter_map, List.map_map]; rfl
  rw [e2, e]
theorem get_enc {α : Type} {l : List α} {enc : α → V} {i : Nat} {x : V} (h : (l.map enc)[i]? = some x) (d : α) : i < l.length ∧ l[i]? = some (l.getD i d) ∧ x = enc (l.getD i d) := by
  rw [List.getElem?_map] at h
  cases e : l[i]? with
  | none => rw [e] at h; cases h
  | some n =>
    rw [e] at h
    have e' : l.getD i d = n := by rw [List.getD_eq_getElem?_getD, e]; rfl
    have hi : i < l.length := (List.getElem?_eq_some_iff.mp e).1
    exact ⟨hi, by rw [e'], by rw [e']; exact (Option.some.inj h).symm⟩
theorem getD_mem {α : Type} {l : List α} {i : Nat} (h : i < l.length) (d : α) : l.getD i d ∈ l := by
  rw [List.getD_eq_getElem?_getD, List.getElem?_eq_getElem h]
  exact List.getElem_mem h
section
variable {K : PySem.W.Frag} {σ : L2.St} {H H' : Hp} {ta tb te tx tl : TE} {t u : TT} {x y z v : V} {r : R2}
/-- over a list -/
theorem lc_l {α : Type} [Inhabited α] {a : Addr} {l : List α} {enc : α → V} {j : Nat} {vs : List Nat} (p : α → Bool) (φ : α → V) (h : Ev tl σ H (.ref a)) (hx : SqL K H a (l.map enc)) (hz : l.length ≤ 40000) (hw : ∀ x, wipe ((wipe σ vs).set j (some x)) vs = wipe σ vs)
    (ht : ∀ x, x ∈ l → ∀ H1, Ex H H1 → EvT t ((wipe σ vs).set j (some (enc x))) H1 (p x)) (he : ∀ x, x ∈ l → ∀ H1, Ex H H1 → p x = true → Ev te ((wipe σ vs).set j (some (enc x))) H1 (φ x)) :
    EvL (tLc (iList K tl) (gName j) t te vs) σ H ((l.filter p).map φ) := by
  have z := el_lcL (K := K) (σ := σ) (H := H) (t := t) (te := te) (tl := tl) (xs := l.map enc) (j := j) (vs := vs) (fun i => p (l.getD i default)) (fun i => φ (l.getD i default)) h hx (by rw [List.length_map]; exact hz) hw (fun i x H1 e hi => by
      obtain ⟨hl, _, e'⟩ := get_enc hi default
      rw [e']; exact ht _ (getD_mem hl _) H1 e) (fun i x H1 e hi hp => by
      obtain ⟨hl, _, e'⟩ := get_enc hi default
      rw [e']; exact he _ (getD_mem hl _) H1 e hp)
  rw [List.length_map, given_map] at z
  exact z
/-- over a new list -/
theorem lc_nl {α : Type} [Inhabited α] {l : List α} {enc : α → V} {j : Nat} {vs : List Nat} (p : α → Bool) (φ : α → V) (h : EvL tl σ H (l.map enc)) (hz : l.length ≤ 40000) (hw : ∀ x, wipe ((wipe σ vs).set j (some x)) vs = wipe σ vs)
    (ht : ∀ x, x ∈ l → ∀ H1, Ex H H1 → EvT t ((wipe σ vs).set j (some (enc x))) H1 (p x)) (he : ∀ x, x ∈ l → ∀ H1, Ex H H1 → p x = true → Ev te ((wipe σ vs).set j (some (enc x))) H1 (φ x)) :
    EvL (tLc (iList K tl) (gName j) t te vs) σ H ((l.filter p).map φ) := by
  have z := el_lcNL (K := K) (σ := σ) (H := H) (t := t) (te := te) (tl := tl) (xs := l.map enc) (j := j) (vs := vs) (fun i => p (l.getD i default)) (fun i => φ (l.getD i default)) h (by rw [List.length_map]; exact hz) hw (fun i x H1 e hi => by
      obtain ⟨hl, _, e'⟩ := get_enc hi default
      rw [e']; exact ht _ (getD_mem hl _) H1 e) (fun i x H1 e hi hp => by
      obtain ⟨hl, _, e'⟩ := get_enc hi default
      rw [e']; exact he _ (getD_mem hl _) H1 e hp)
  rw [List.length_map, given_map] at z
  exact z
/-- over a tuple -/
theorem lc_t {α : Type} [Inhabited α] {a : Addr} {l : List α} {enc : α → V} {j : Nat} {vs : List Nat} (p : α → Bool) (φ : α → V) (h : Ev tl σ H (.ref a)) (hx : SqT K H a (l.map enc)) (hz : l.length ≤ 40000) (hw : ∀ x, wipe ((wipe σ vs).set j (some x)) vs = wipe σ vs)
    (ht : ∀ x, x ∈ l → ∀ H1, Ex H H1 → EvT t ((wipe σ vs).set j (some (enc x))) H1 (p x)) (he : ∀ x, x ∈ l → ∀ H1, Ex H H1 → p x = true → Ev te ((wipe σ vs).set j (some (enc x))) H1 (φ x)) :
    EvL (tLc (iTup K tl) (gName j) t te vs) σ H ((l.filter p).map φ) := by
  intro H0 e Q q
  refine h H0 e _ fun H1 e1 => ⟨a, rfl, ⟨l.map enc, ex_t (e.trans e1) hx⟩, fun Dl hD => ?_⟩
  refine lc_tup (xs := l.map enc) (Cw H1 (fun i => p (l.getD i default)) (fun i => φ (l.getD i default)) Dl) ⟨hD, Ex.new hD, upd_same⟩ (fun i H' _ p => ex_t ((e.trans e1).trans p.2.1) hx) (fun i x H' hi pc => ?_) (fun H' pc => ?_)
  · obtain ⟨hl, _, e'⟩ := get_enc hi default
    rw [e']
    exact ⟨hw _, cw_turn pc (by omega) (ht _ (getD_mem hl _) H1 (e.trans e1)) (fun hf => he _ (getD_mem hl _) H1 (e.trans e1) hf)⟩
  · have z := pc.2.2
    rw [List.length_map, given_map] at z
    exact q Dl H' (fresh_back e1 pc.1) (e1.trans pc.2.1) z
/-- over range(n) -/
theorem lc_r {ta : TA} {j : Nat} {vs : List Nat} {n : Nat} (p : Nat → Bool) (φ : Nat → V) (h : EvA ta σ H [nv n]) (hn : n ≤ 40000) (hw : ∀ x, wipe ((wipe σ vs).set j (some x)) vs = wipe σ vs)
    (ht : ∀ i, i < n → ∀ H1, Ex H H1 → EvT t ((wipe σ vs).set j (some (nv i))) H1 (p i)) (he : ∀ i, i < n → ∀ H1, Ex H H1 → p i = true → Ev te ((wipe σ vs).set j (some (nv i))) H1 (φ i)) :
    EvL (tLc (iRng1 ta) (gName j) t te vs) σ H (((List.range n).filter p).map φ) :=
  el_lcR1 (n := (n : Int)) p φ h ⟨by omega, by omega⟩ hw (fun i H1 e hi => ht i (by omega) H1 e) (fun i H1 e hi hp => he i (by omega) H1 e hp)
theorem et_yes : EvT tYes σ H true := fun H1 _ _ q => q H1 (Ex.refl H1)
/-- xs + ys, both new -/
theorem el_cat {xs ys : List V} (ha : EvL ta σ H xs) (hb : EvL tb σ H ys) (hz : xs.length + ys.length ≤ 100000) : EvL (tOp rCat ta tb) σ H (xs ++ ys) := fun H1 e Q q =>
  ha H1 e _ fun p H2 np e2 hp => hb H2 (e.trans e2) _ fun p' H3 np' e3 hp' => ⟨p, p', xs, ys, rfl, rfl, e3 p _ hp, hp', sz_of hz, fun r nr => q r _ (fresh_back (e2.trans e3) nr) ((e2.trans e3).trans (Ex.new nr)) upd_same⟩
/-- xs + ys, the first one a list that stands -/
theorem el_catV {a : Addr} {xs ys : List V} (ha : Ev ta σ H (.ref a)) (hx : H a = some (.lst xs)) (hb : EvL tb σ H ys) (hz : xs.length + ys.length ≤ 100000) : EvL (tOp rCat ta tb) σ H (xs ++ ys) := fun H1 e Q q =>
  ha H1 e _ fun H2 e2 => hb H2 (e.trans e2) _ fun p' H3 np' e3 hp' => ⟨a, p', xs, ys, rfl, rfl, e3 a _ (e2 a _ (e a _ hx)), hp', sz_of hz, fun r nr => q r _ (fresh_back (e2.trans e3) nr) ((e2.trans e3).trans (Ex.new nr)) upd_same⟩
end
/-! ### natI of naturals -/
def natI (ns : List Nat) : List Int := List.map (fun n : Nat => (n : Int)) ns
theorem natI_v (ns : List Nat) : (natI ns).map V.int = nvs ns := by
  unfold natI nvs; rw [List.map_map]; rfl
theorem nats_natI (ns : List Nat) : (natI ns).map Int.toNat = ns := by
  unfold natI; rw [List.map_map]
  exact (List.map_congr_left fun n _ => Int.toNat_natCast n).trans (List.map_id ns)
theorem natI_back {ms : List Int} {ns : List Nat} (p : ms.Perm (natI ns)) : ms = natI (ms.map Int.toNat) ∧ (ms.map Int.toNat).Perm ns := by
  refine ⟨?_, ?_⟩
  · unfold natI
    rw [List.map_map]
    have : ms.map id = ms := List.map_id ms
    conv => lhs; rw [← this]
    refine List.map_congr_left fun m hm => ?_
    obtain ⟨n, _, e⟩ := List.mem_map.mp (p.mem_iff.mp hm)
    show m = ((m.toNat : Nat) : Int)
    rw [← e]; rfl
  · have z := p.map Int.toNat
    rw [nats_natI] at z; exact z
theorem nvs_len (ns : List Nat) : (nvs ns).length = ns.length := List.length_map ..
section
variable {P : Program} {w : World} {K : PySem.W.Frag} {mg : Str → Option Value} {base : Heap}
/-- the plain basis of one and a word more -/
def With (B : List Nat) (n : Nat) (B' : List Nat) : Prop := if leftOf B n = 0 then B' = B else B'.Perm (added B (leftOf B n))
def spWith (K : PySem.W.Frag) : Sp := fun vs H Q _ => ∃ a B n, vs = [.ref a, nv n] ∧ SqT K H a (nvs B) ∧ B.length ≤ 1000 ∧ ∀ H' t B', Ex H H' → SqT K H' t (nvs B') → With B n B' → Q (.ref t) H'
theorem spv_left {a : Addr} {B : List Nat} {n : Nat} {H : Hp} (h : SqT K H a (nvs B)) : SpV (spLeft K) [.ref a, nv n] H (nv (leftOf B n)) := fun H1 e Q q _ => ⟨a, B, n, rfl, ex_t e h, q⟩
theorem ok_with_word (D : Df K mg "with_word" s_with_word) (T : Free mg) (O : Ok P w K mg base 1 "left_of" ["basis", "word"] (spLeft K)) : Ok P w K mg base 2 "with_word" ["basis", "word"] (spWith K) := by
  refine ok_mk D (fun f fd F => F.binds fun _ _ _ _ _ _ us hl => match us, hl with | [_, _], _ => rfl) fun f fd F => F.ok sc_with_word (fun vs H Q E h => ?_) (fun cdv A outer s H vs Q E hr h => ?_)
  · obtain ⟨a, B, n, rfl, _⟩ := h; rfl
  · obtain ⟨a, B, n, rfl, hB, hl, q⟩ := h
    obtain ⟨f1, fd1, g1, k1, b1, G1⟩ := O.ex
    refine ⟨_, pss_cons (ps_set (i := 2) sc_with_word.nd rfl (.inr rfl) (pe_call G1 hr (by rfl) g1 k1 b1 .nil pass0 (pa_cons (pv 0) (pa_cons (pv 1) pa_nil))))
      (pss_cons (ps_if (pt_cmpR op_eq (pv 2) pe_int (nomark _)) (pss_one (ps_ret (pv 0))) pss_nil)
      (pss_one (ps_ret (pe_callTy call_tuple_of (by rfl) T.tuple (by decide +kernel) (pa_cons (pe_callBK (cr_sortedRev (b := true)) (by rfl) T.sorted (by decide +kernel)
        (pa_cons (pe_op op_cat (pe_lc (own := [("one", 3)]) (g := gName 3) (tt := tYes) rfl sc_with_word.nd (pi_tup (pv 0)) (blkOk_by (N := ["basis", "word", "left", "one"]) (sc := defScope s_with_word) (by decide +kernel))
          (fun _ _ _ _ _ => pg_name (i := 3) sc_with_word.nd rfl (.inl rfl)) (fun _ _ _ _ _ => pts_nil) (fun _ _ _ _ _ => pe_callB (call_min2 rfl) (by rfl) T.min (by decide +kernel) (pa_cons (pv 3) (pa_cons (pe_op op_xor (pv 3) (pv 2)) pa_nil))))
          (pe_lst (pa_cons (pv 2) pa_nil))) pa_nil) (pk_cons pe_bl pk_nil)) pa_nil))))), ?_⟩
    refine q_asg (ev_call (ea_cons (ev_var rfl) (ea_cons (ev_var rfl) ea_nil)) (spv_left hB)) fun H1 e1 => ?_
    refine q_when (b := decide (leftOf B n = 0)) (et_test (ev_op (ev_var rfl) (ev_c (v := nv 0)) rv_eqN)) (fun h0 H2 e2 => ?_) (fun h0 H2 e2 => ?_)
    · exact s_ret (ev_var rfl) fun H3 e3 => q H3 a B ((e1.trans e2).trans e3) (ex_t ((e1.trans e2).trans e3) hB) (by unfold With; rw [if_pos (of_decide_eq_true h0)])
    · have h0 := of_decide_eq_false h0
      refine el_cat (H := H2) (lc_t (l := B) (enc := nv) (fun _ => true) (fun o => nv (min o (o ^^^ leftOf B n))) (ev_var rfl) (ex_t (e1.trans e2) hB) (by omega) (fun _ => rfl) (fun _ _ _ _ => et_yes)
        (fun o _ H3 _ _ => ev_cb (ea_cons (ev_var rfl) (ea_cons (ev_op (ev_var rfl) (ev_var rfl) rv_xor) ea_nil)) rc_min)) (el_lst (ea_cons (ev_var rfl) ea_nil) (by show 1 ≤ 100000; decide)) (by
          rw [List.length_map]
          have := List.length_filter_le (fun _ : Nat => true) B
          show _ + 1 ≤ 100000
          omega) H2 (Ex.refl H2) _ fun p H3 np e3 hp => ?_
      have ef : B.filter (fun _ => true) = B := List.filter_eq_self.mpr fun _ _ => rfl
      have ea : (B.filter fun _ => true).map (fun o => nv (min o (o ^^^ leftOf B n))) ++ [nv (leftOf B n)] = (natI (added B (leftOf B n))).map V.int := by
        rw [natI_v, ef]
        unfold added nvs
        rw [List.map_append, List.map_map]; rfl
      rw [ea] at hp
      refine ⟨p, natI (added B (leftOf B n)), rfl, rfl, sq_of hp, fun ns' p2 hperm _ np2 => ?_⟩
      obtain ⟨b1, b2⟩ := natI_back hperm
      refine ⟨p2, _, rfl, .inl ⟨sq_of upd_same, fun l nl => ?_⟩⟩
      refine q _ l (ns'.map Int.toNat) (((e1.trans e2).trans e3).trans ((Ex.new np2).trans (Ex.new nl))) ?_ (by unfold With; rw [if_neg h0]; exact b2)
      refine st_of ?_
      rw [upd_same, ← natI_v, ← b1]
end
end K7
namespace K7
open PySem PySem.Spec PyProof.Rows L2 Evl K71
theorem sameS_perm {A B : List Nat} (p : A.Perm B) : SameS A B := .of (fun x hx => in_mem (p.mem_iff.mp hx)) fun x hx => in_mem (p.mem_iff.mpr hx)
theorem sameS_trans {A B C : List Nat} (h : SameS A B) (k : SameS B C) : SameS A C := fun x => (h x).trans (k x)
theorem sameS_snoc {B ws : List Nat} {n : Nat} (h : SameS B ws) : SameS (n :: B) (ws ++ [n]) := .of (fun x hx => by
    rcases List.mem_cons.mp hx with e | hx
    · exact in_mem (List.mem_append.mpr (.inr (List.mem_singleton.mpr e)))
    · exact in_sub (fun w hw => in_mem (List.mem_append.mpr (.inl hw))) ((h x).mp (in_mem hx))) fun x hx => by
    rcases List.mem_append.mp hx with hx | hx
    · exact in_sub (fun w hw => in_mem (List.mem_cons_of_mem _ hw)) ((h x).mpr (in_mem hx))
    · exact in_mem (by rw [List.mem_singleton.mp hx]; exact List.mem_cons_self)
theorem With.plain {B B' : List Nat} {n : Nat} (P : Plain B) (h : With B n B') : Plain B' := by
  unfold With at h
  split at h
  · rw [h]; exact P
  · rename_i h0; exact (added_plain P h0).perm h
theorem With.same {B B' : List Nat} {n : Nat} (P : Plain B) (h : With B n B') : SameS B' (n :: B) := by
  unfold With at h
  split at h
  · rename_i h0; rw [h]; exact left_zero P h0
  · exact sameS_trans (sameS_perm h) (added_span P)
theorem With.len {B B' : List Nat} {n : Nat} (h : With B n B') : B'.length ≤ B.length + 1 := by
  unfold With at h
  split at h
  · rw [h]; omega
  · rw [h.length_eq]
    unfold added
    rw [List.length_append, List.length_map]
    exact Nat.le_refl _
section
variable {P : Program} {w : World} {K : PySem.W.Frag} {mg : Str → Option Value} {base : Heap}
def spPlain (K : PySem.W.Frag) : Sp := fun vs H Q _ => ∃ a ws, vs = [.ref a] ∧ SqL K H a (nvs ws) ∧ ws.length ≤ 500 ∧ ∀ H' t B, Ex H H' → SqT K H' t (nvs B) → Plain B → SameS B ws → B.length ≤ ws.length → Q (.ref t) H'
theorem ok_plain_basis (D : Df K mg "plain_basis" s_plain_basis) (O : Ok P w K mg base 2 "with_word" ["basis", "word"] (spWith K)) : Ok P w K mg base 3 "plain_basis" ["words"] (spPlain K) := by
  refine ok_mk D (fun f fd F => F.binds fun _ _ _ _ _ _ us hl => match us, hl with | [_], _ => rfl) fun f fd F => F.ok sc_plain_basis (fun vs H Q E h => ?_) (fun cdv A outer s H vs Q E hr h => ?_)
  · obtain ⟨a, ws, rfl, _⟩ := h; rfl
  · obtain ⟨a, ws, rfl, hW, hl, q⟩ := h
    obtain ⟨f1, fd1, g1, k1, b1, G1⟩ := O.ex
    refine ⟨_, pss_cons (ps_set (i := 1) sc_plain_basis.nd rfl (.inl rfl) (pe_tup pa_nil))
      (pss_cons (ps_for PassesOwn.never rfl (pi_list (pv 0)) (pg_name (i := 2) sc_plain_basis.nd rfl (.inl rfl))
        (pss_one (ps_set (i := 1) sc_plain_basis.nd rfl (.inl rfl) (pe_call G1 hr (by rfl) g1 k1 b1 .nil pass0 (pa_cons (pv 1) (pa_cons (pv 2) pa_nil))))))
      (pss_one (ps_ret (pv 1)))), ?_⟩
    refine q_asgU (eu_tup ea_nil (Nat.zero_le _)) fun p H1 np e1 hp => ?_
    refine q_forL (ev_var rfl) (ex_l e1 hW) (fun i σ' H' => ∃ t B y, σ' = [some (.ref a), some (.ref t), y] ∧ Ex H H' ∧ SqT K H' t (nvs B) ∧ Plain B ∧ SameS B (ws.take i) ∧ B.length ≤ i)
      (fun H2 e2 => ⟨p, [], none, rfl, e1.trans e2, st_of (e2 _ _ hp), Plain.nil, fun _ => Iff.rfl, Nat.le_refl _⟩) (fun i σ' H' _ ⟨_, _, _, _, e, _⟩ => ex_l e hW) ?_ ?_
    · rintro i x σ' H' hx ⟨t, B, y, rfl, e, hB, PB, SB, lB⟩
      obtain ⟨n, hn, rfl⟩ := nvs_get hx
      have hi : i < ws.length := (List.getElem?_eq_some_iff.mp hn).1
      refine ⟨.ref t, rfl, nv n, rfl, t, B, n, rfl, hB, by omega, fun H2 t' B' e2 hB' wi => ?_⟩
      refine ⟨t', B', some (nv n), rfl, e.trans e2, hB', wi.plain PB, ?_, Nat.le_trans wi.len (by omega)⟩
      rw [take_snoc hn]
      exact sameS_trans (wi.same PB) (sameS_snoc SB)
    · rintro σ' H' ⟨t, B, y, rfl, e, hB, PB, SB, lB⟩
      have ht : ws.take (nvs ws).length = ws := List.take_of_length_le (by rw [nvs_len]; exact Nat.le_refl _)
      rw [ht] at SB
      exact ⟨.ref t, rfl, q H' t B e hB PB SB (by rw [nvs_len] at lB; exact lB)⟩
/-! ### two fields -/
def two (x y : Str) (v u : V) : List (Str × V) := putF y u (putF x v [])
theorem two_fst {x y : Str} {v u : V} (h : ¬ x = y) : (two x y v u).lookup x = some v := by
  unfold two; rw [lookup_putF, if_neg h, lookup_putF, if_pos rfl]
theorem two_snd {x y : Str} {v u : V} : (two x y v u).lookup y = some u := by
  unfold two; rw [lookup_putF, if_pos rfl]
/-- a class with two fields -/
structure Cl2 (K : PySem.W.Frag) (mg : Str → Option Value) (name x y : Str) (C f : Addr) : Prop where
  cl : Cls K C
  nx : NoAttr K C x
  ny : NoAttr K C y
  mgC : mg name = some (.ref C)
  make : Mk K C f
/-- a class's __init__ -/
structure OkM (P : Program) (w : World) (K : PySem.W.Frag) (mg : Str → Option Value) (base : Heap) (k : Nat) (f : Addr) (ps : List Str) (sp : Sp) : Prop where
  ex : ∃ (fd : FuncData), Binds K fd ps [] ∧ FnOk P w K mg base CX0 k f fd ps sp
theorem told_ne : ¬ (("told_places" : Str) = "told_basis") := by decide +kernel
theorem own_ne : ¬ (("own_places" : Str) = "own_basis") := by decide +kernel
def spInit2 (C : Addr) (x y : Str) : Sp := fun vs H Q _ => ∃ p dx v u, vs = [.ref p, v, u] ∧ H p = some (.ins C dx []) ∧ ∀ H', (∀ b, b ≠ p → H' b = H b) → H' p = some (.ins C dx (two x y v u)) → Q .non H'
theorem ok_Told_init {C f : Addr} {fd : FuncData} (F : Fun K "__init__" "Told.__init__" s_Told_init f fd) (T : Cl2 K mg "Told" "told_places" "told_basis" C f) : OkM P w K mg base 1 f ["self", "places", "basis"] (spInit2 C "told_places" "told_basis") := by
  refine ⟨fd, F.binds fun _ _ _ _ _ _ us hl => (match us, hl with | [_, _, _], _ => rfl), F.ok sc_Told_init (fun vs H Q E h => ?_) (fun cdv A outer s H vs Q E hr h => ?_)⟩
  · obtain ⟨p, dx, v, u, rfl, _⟩ := h; rfl
  · obtain ⟨p, dx, v, u, rfl, hp, q⟩ := h
    refine ⟨_, pss_cons (ps_fld (pv 0) (pv 1) rfl) (pss_one (ps_fld (pv 0) (pv 2) rfl)), ?_⟩
    refine ⟨_, rfl, _, rfl, p, C, dx, [], rfl, hp, T.cl, T.nx, (by show 0 < 1000; decide), _, rfl, _, rfl, p, C, dx, _, rfl, upd_same, T.cl, T.ny, (by show 1 < 1000; decide), ?_⟩
    exact q _ (fun b hb => by rw [upd_ne hb, upd_ne hb]) upd_same
end
end K7
namespace K7
open PySem PySem.Spec PyProof.Rows L2 Evl K71
theorem shr_zero {n k : Nat} (h : n < 2 ^ k) : n >>> k = 0 := by
  rw [Nat.shiftRight_eq_div_pow]
  exact Nat.div_eq_of_lt h
section
variable {P : Program} {w : World} {K : PySem.W.Frag} {mg : Str → Option Value} {base : Heap}
abbrev isCt : V → Hp → Prop := fun v _ => ∃ n, v = nv n
def spTold (K : PySem.W.Frag) (CT : Addr) : Sp := fun vs H Q _ => ∃ n a ws, vs = [nv n, .ref a] ∧ H a = some (.lst (nvs ws)) ∧ 1 ≤ n ∧ n ≤ 24 ∧ ws.length ≤ 48 ∧ (∀ x, x ∈ ws → x < 2 ^ n) ∧
  ∀ H' x dx t B, Ex H H' → H' x = some (.ins CT dx (two "told_places" "told_basis" (nv n) (.ref t))) → SqT K H' t (nvs B) → Plain B → SameS B ws → B.length ≤ ws.length → Q (.ref x) H'
theorem ok_told_room {CT fT : Addr} (D : Df K mg "told_room" s_told_room) (T : Free mg) (TT : Cl2 K mg "Told" "told_places" "told_basis" CT fT) (isI : PySem.W.kitOne K (.type "int") (.ref CT) = some false) (gM : ∃ t, mg "MOST_WORDS" = some (.int 48 t))
    (OM : OkM P w K mg base 1 fT ["self", "places", "basis"] (spInit2 CT "told_places" "told_basis")) (OP : Ok P w K mg base 3 "plain_basis" ["words"] (spPlain K)) (OW : Ok P w K mg base 4 "want_places" ["value"] (spNone isPl))
    (OL : Ok P w K mg base 1 "is_list" ["value"] (spTrue isLs)) (OC : Ok P w K mg base 2 "is_count" ["value"] (spTrue isCt)) : Ok P w K mg base 5 "told_room" ["places", "words"] (spTold K CT) := by
  refine ok_mk D (fun f fd F => F.binds fun _ _ _ _ _ _ us hl => match us, hl with | [_, _], _ => rfl) fun f fd F => F.ok sc_told_room (fun vs H Q E h => ?_) (fun cdv A outer s H vs Q E hr h => ?_)
  · obtain ⟨n, a, ws, rfl, _⟩ := h; rfl
  · obtain ⟨n, a, ws, rfl, hA, hn1, hn2, hl, hlt, q⟩ := h
    obtain ⟨fdM, bM, GM⟩ := OM.ex
    obtain ⟨f1, fd1, g1, k1, b1, G1⟩ := OP.ex
    obtain ⟨f2, fd2, g2, k2, b2, G2⟩ := OW.ex
    obtain ⟨f3, fd3, g3, k3, b3, G3⟩ := OL.ex
    obtain ⟨f4, fd4, g4, k4, b4, G4⟩ := OC.ex
    obtain ⟨t48, gM⟩ := gM
    refine ⟨_, pss_cons (ps_if (pt_val (pe_callB call_isi (by rfl) T.isinstance (by decide +kernel) (pa_cons (pv 0) (pa_cons (pe_glob (v := .ref CT) (by rfl) TT.mgC rfl) pa_nil)))) (pss_one (ps_ret (pv 0))) pss_nil)
      (pss_cons (ps_expr (pe_call G2 hr (by rfl) g2 k2 b2 .nil pass0 (pa_cons (pv 0) pa_nil)))
      (pss_cons (ps_if (PW.pt (pw_or (pt_not (pt_val (pe_call G3 (hr.mono (by decide)) (by rfl) g3 k3 b3 .nil pass0 (pa_cons (pv 1) pa_nil)))) (pw_or1 (pt_cmpR op_gt (pe_callB call_len_seq (by rfl) T.len PySem.boot_len (pa_cons (pv 1) pa_nil)) (pe_glob (v := nv 48) (by rfl) gM ⟨_, rfl⟩) (nomark _))))) (pss_one ps_never) pss_nil)
      (pss_cons (ps_for PassesOwn.never rfl (pi_enum (by rfl) T.enumerate (pa_cons (pv 1) pa_nil)) (pg_tup rfl (pgs_cons (pg_name (i := 2) sc_told_room.nd rfl (.inl rfl)) (pgs_cons (pg_name (i := 3) sc_told_room.nd rfl (.inl rfl)) pgs_nil)))
        (pss_one (ps_if (PW.pt (pw_or (pt_not (pt_val (pe_call G4 (hr.mono (by decide)) (by rfl) g4 k4 b4 .nil pass0 (pa_cons (pv 3) pa_nil)))) (pw_or1 (pt_cmpR op_ne (pe_op op_shr (pv 3) (pv 0)) pe_int (nomark _))))) (pss_one ps_never) pss_nil)))
      (pss_one (ps_ret (pe_make TT.make GM (hr.mono (by decide)) (by rfl) TT.mgC bM .nil pass0 (pa_cons (pv 0) (pa_cons (pe_call G1 (hr.mono (by decide)) (by rfl) g1 k1 b1 .nil pass0 (pa_cons (pv 1) pa_nil)) pa_nil)))))))), ?_⟩
    refine q_when (b := false) (et_B (ev_cb (ea_cons (ev_var rfl) (ea_cons ev_c ea_nil)) (rc_isi (b := false) (.own CT) (fun _ _ => .base (.int _)) isI))) (fun h => nomatch h) fun _ H1 e1 => ?_
    refine q_drop (ev_call (ea_cons (ev_var rfl) ea_nil) (spv_none fun _ _ => ⟨n, hn1, hn2, rfl⟩)) fun H2 e2 => ?_
    have hA2 : H2 a = some (.lst (nvs ws)) := e2 _ _ (e1 _ _ hA)
    refine q_when (b := false) (et_or (a := false) (b := false) (et_not (a := true) (et_B (ev_call (ea_cons (ev_var rfl) ea_nil) (spv_true fun H3 e3 => ⟨a, _, rfl, e3 _ _ hA2⟩)))) fun _ =>
      et_is (et_test (ev_op (x := nv (nvs ws).length) (y := nv 48) (ev_len (ev_var rfl) (sq_of hA2)) ev_c rv_gtN)) (decide_eq_false (by rw [nvs_len]; omega))) (fun h => nomatch h) fun _ H3 e3 => ?_
    have hA3 : H3 a = some (.lst (nvs ws)) := e3 _ _ hA2
    have E3 : Ex H H3 := (e1.trans e2).trans e3
    refine ⟨.ref a, rfl, a, nvs ws, rfl, sq_of hA3, for_it (walk_enum (xs := nvs ws)) (fun i σ' H' => ∃ y z, σ' = [some (nv n), some (.ref a), y, z] ∧ Ex H3 H') ⟨none, none, rfl, Ex.refl _⟩ (fun i σ' H' _ ⟨_, _, _, e⟩ => ex_l e (sq_of hA3)) ?_ ?_⟩
    · rintro i x σ' H' H'' hi ⟨y, z, rfl, e⟩ ⟨tp, x1, x2, rfl, ntp, rfl, e1', e2'⟩
      obtain ⟨m, hm, rfl⟩ := nvs_get e2'
      have e1'' : x1 = nv i := (Option.some.inj e1').symm
      subst e1''
      refine ⟨tp, [nv i, nv m], rfl, .inl (.inl upd_same), rfl, nv i, [nv m], rfl, nv m, [], rfl, rfl, ?_⟩
      refine s_when (b := false) (et_or (a := false) (b := false) (et_not (a := true) (et_B (ev_call (ea_cons (ev_var rfl) ea_nil) (spv_true fun _ _ => ⟨m, rfl⟩)))) fun _ =>
        et_is (et_test (ev_op (y := nv 0) (ev_op (ev_var rfl) (ev_var rfl) rv_shr) ev_c rv_neN)) (by
          rw [shr_zero (hlt m (List.mem_of_getElem? hm))]; rfl)) (fun h => nomatch h) fun _ H4 e4 => ⟨some (nv i), some (nv m), rfl, (e.trans (Ex.new ntp)).trans e4⟩
    · rintro σ' H4 ⟨y, z, rfl, e4⟩
      have hA4 : H4 a = some (.lst (nvs ws)) := e4 _ _ hA3
      refine ⟨nv n, rfl, .ref a, rfl, a, ws, rfl, sq_of hA4, by omega, fun H5 t B e5 hB PB SB LB x dx nx ndx ne => ?_⟩
      have e6 : Ex H5 (upd (upd H5 dx (.own x)) x (.ins CT dx [])) := (Ex.new ndx).trans (Ex.new (by rw [upd_ne ne.symm]; exact nx))
      refine ⟨x, dx, nv n, .ref t, rfl, upd_same, fun H6 k6 h6 => ⟨rfl, ?_⟩⟩
      have e7 : Ex H5 H6 := fun b o hb => by
        have nb : b ≠ x := ne_of_none hb nx
        rw [k6 b nb]
        exact e6 _ _ hb
      exact q H6 x dx t B ((E3.trans e4).trans (e5.trans e7)) h6 (ex_t e7 hB) PB SB LB
end
end K7
namespace K7
open PySem PySem.Spec PyProof.Rows L2 Evl K71
/-- all but p is as it was -/
def But (p : Addr) (H H' : Hp) : Prop := ∀ b o, b ≠ p → H b = some o → H' b = some o
theorem But.sqt {K : PySem.W.Frag} {p t : Addr} {H H' : Hp} {xs : List V} {o : HO} (k : But p H H') (hp : H p = some o) (ho : ∀ u, o ≠ .tup u) (hf : ∀ ob u, o ≠ .frz ob u) (h : SqT K H t xs) : SqT K H' t xs := by
  rcases h with (h | ⟨ob, h⟩) | h
  · exact .inl (.inl (k _ _ (fun e => by rw [e, hp] at h; exact ho _ (Option.some.inj h)) h))
  · exact .inl (.inr ⟨ob, k _ _ (fun e => by rw [e, hp] at h; exact hf _ _ (Option.some.inj h)) h⟩)
  · exact .inr h
theorem But.ex {p : Addr} {H H' H2 : Hp} (k : But p H H') (e : Ex H' H2) : But p H H2 := fun b o hb h => e b o (k b o hb h)
theorem Ex.but {p : Addr} {H H' : Hp} (e : Ex H H') : But p H H' := fun b o _ h => e b o h
theorem But.trans {p : Addr} {H H' H2 : Hp} (k : But p H H') (e : But p H' H2) : But p H H2 := fun b o hb h => e b o hb (k b o hb h)
section
variable {P : Program} {w : World} {K : PySem.W.Frag} {mg : Str → Option Value} {base : Heap}
/-! ### a Room -/
abbrev fRm (n : Nat) (t : Addr) : List (Str × V) := two "own_places" "own_basis" (nv n) (.ref t)
def RoomAt (K : PySem.W.Frag) (CR : Addr) (H : Hp) (p : Addr) (n : Nat) (B : List Nat) : Prop := ∃ dx t, H p = some (.ins CR dx (fRm n t)) ∧ SqT K H t (nvs B)
theorem RoomAt.ex {CR p : Addr} {H H' : Hp} {n : Nat} {B : List Nat} (h : RoomAt K CR H p n B) (e : Ex H H') : RoomAt K CR H' p n B := by
  obtain ⟨dx, t, h1, h2⟩ := h
  exact ⟨dx, t, e _ _ h1, ex_t e h2⟩
def spRoomInit (K : PySem.W.Frag) (CR : Addr) : Sp := fun vs H Q _ => ∃ p dx n a ws, vs = [.ref p, nv n, .ref a] ∧ H p = some (.ins CR dx []) ∧ H a = some (.lst (nvs ws)) ∧ 1 ≤ n ∧ n ≤ 24 ∧ ws.length ≤ 48 ∧ (∀ x, x ∈ ws → x < 2 ^ n) ∧
  ∀ H' B, But p H H' → RoomAt K CR H' p n B → Plain B → SameS B ws → B.length ≤ ws.length → Q .non H'
theorem ok_Room_init {CT fT CR fR : Addr} {fd : FuncData} (F : Fun K "__init__" "Room.__init__" s_Room_init fR fd) (T : Cl2 K mg "Room" "own_places" "own_basis" CR fR) (TT : Cl2 K mg "Told" "told_places" "told_basis" CT fT) (O : Ok P w K mg base 5 "told_room" ["places", "words"] (spTold K CT)) :
    OkM P w K mg base 6 fR ["self", "places", "words"] (spRoomInit K CR) := by
  refine ⟨fd, F.binds fun _ _ _ _ _ _ us hl => (match us, hl with | [_, _, _], _ => rfl), F.ok sc_Room_init (fun vs H Q E h => ?_) (fun cdv A outer s H vs Q E hr h => ?_)⟩
  · obtain ⟨p, dx, n, a, ws, rfl, _⟩ := h; rfl
  · obtain ⟨p, dx, n, a, ws, rfl, hp, hA, h1, h2, hl, hlt, q⟩ := h
    obtain ⟨f1, fd1, g1, k1, b1, G1⟩ := O.ex
    refine ⟨_, pss_cons (ps_set (i := 3) sc_Room_init.nd rfl (.inl rfl) (pe_call G1 hr (by rfl) g1 k1 b1 .nil pass0 (pa_cons (pv 1) (pa_cons (pv 2) pa_nil))))
      (pss_cons (ps_fld (pv 0) (pe_fld (pv 3) rfl) rfl) (pss_one (ps_fld (pv 0) (pe_fld (pv 3) rfl) rfl))), ?_⟩
    refine ⟨nv n, rfl, .ref a, rfl, n, a, ws, rfl, hA, h1, h2, hl, hlt, fun H1 x dx' t B e1 hx hB PB SB LB => ?_⟩
    have hp1 : H1 p = some (.ins CR dx []) := e1 _ _ hp
    have npx : x ≠ p := ne_of hx hp1 (by
      intro e
      have z : (two "told_places" "told_basis" (nv n) (V.ref t)) = [] := by injection e
      unfold two at z
      have y := two_snd (x := "told_places") (y := "told_basis") (v := nv n) (u := V.ref t)
      unfold two at y
      rw [z] at y
      cases y)
    refine ⟨.ref x, rfl, x, CT, dx', _, nv n, rfl, hx, TT.cl, TT.nx, two_fst told_ne, .ref p, rfl, p, CR, dx, [], rfl, hp1, T.cl, T.nx, (by show 0 < 1000; decide), ?_⟩
    refine ⟨.ref x, rfl, x, CT, dx', _, .ref t, rfl, (by rw [upd_ne npx]; exact hx), TT.cl, TT.ny, two_snd, .ref p, rfl, p, CR, dx, _, rfl, upd_same, T.cl, T.ny, (by show 1 < 1000; decide), ?_⟩
    have bt : But p H1 (upd (upd H1 p (.ins CR dx (putF "own_places" (nv n) []))) p (.ins CR dx (fRm n t))) := fun b o hb hh => by
      rw [upd_ne hb, upd_ne hb]; exact hh
    exact q _ B (fun b o hb hh => bt b o hb (e1 b o hh)) ⟨dx, t, upd_same, bt.sqt hp1 (fun _ e => nomatch e) (fun _ _ e => nomatch e) hB⟩ PB SB LB
/-- Room(n, ws), as its callers see it -/
structure RoomK (K : PySem.W.Frag) (CR : Addr) : Prop where
  ha : PySem.W.findIn K (.ref CR) "__class__" = some (some (.builtin "object.__class__"))
  hn : PySem.W.specialIn K (.builtin "object.__class__") "__get__" = some (some (.builtin "getset_descriptor.__get__"))
  htk : PySem.W.takesIn K (.builtin "object.__class__") = some true
  hm : PySem.W.mroIn K CR (.type "object") = some true
  kt : PySem.W.kitOne K (.ref CR) (.ref CR) = some true
abbrev isRm (CR : Addr) : V → Hp → Prop := fun v H => ∃ p dx fs, v = .ref p ∧ H p = some (.ins CR dx fs)
theorem ok_want_room {CR fR : Addr} (D : Df K mg "want_room" s_want_room) (F : Free mg) (T : Cl2 K mg "Room" "own_places" "own_basis" CR fR) (R : RoomK K CR) : Ok P w K mg base 1 "want_room" ["value"] (spNone (isRm CR)) := by
  refine ok_mk D (fun f fd F => F.binds fun _ _ _ _ _ _ us hl => match us, hl with | [_], _ => rfl) fun f fd F' => F'.ok sc_want_room (fun vs H Q E h => ?_) (fun cdv A outer s H vs Q E hr h => ?_)
  · obtain ⟨v, rfl, _⟩ := h; rfl
  · obtain ⟨v, rfl, ⟨p, dx, fs, rfl, hp⟩, q⟩ := h
    refine ⟨_, pss_one (ps_if (pt_not (pt_val (pe_callB call_isi (by rfl) F.isinstance (by decide +kernel) (pa_cons (pv 0) (pa_cons (pe_glob (v := .ref CR) (by rfl) T.mgC rfl) pa_nil))))) (pss_one ps_never) pss_nil), ?_⟩
    exact s_when (b := false) (et_not (a := true) (et_B (ev_cb (ea_cons (ev_var rfl) (ea_cons ev_c ea_nil)) (rc_isi (b := true) (.own CR) (fun H1 e1 => .base (.ins (e1 _ _ hp) T.cl R.ha R.hn R.htk R.hm)) R.kt)))) (fun h => nomatch h) (fun _ H1 e => q H1 e)
/-! ### words.py -/
theorem bit_test (m i : Nat) : decide ((m >>> i) &&& 1 = 1) = m.testBit i := by
  rw [Nat.testBit_eq_decide_div_mod_eq, Nat.and_one_is_mod, Nat.shiftRight_eq_div_pow]
def spSpots : Sp := fun vs H Q _ => ∃ m, vs = [nv m] ∧ RetL (nvs (spots m)) H Q
theorem ok_spots_of (D : Df K mg "spots_of" s_spots_of) (T : Free mg) (gP : ∃ t, mg "MOST_PLACES" = some (.int 24 t)) : Ok P w K mg base 1 "spots_of" ["word"] spSpots := by
  refine ok_mk D (fun f fd F => F.binds fun _ _ _ _ _ _ us hl => match us, hl with | [_], _ => rfl) fun f fd F => F.ok sc_spots_of (fun vs H Q E h => ?_) (fun cdv A outer s H vs Q E hr h => ?_)
  · obtain ⟨m, rfl, _⟩ := h; rfl
  · obtain ⟨m, rfl, q⟩ := h
    obtain ⟨t, gP⟩ := gP
    refine ⟨_, pss_one (ps_ret (pe_lc (own := [("place", 1)]) (g := gName 1) rfl sc_spots_of.nd (pi_range1 (by rfl) T.range (pa_cons (pe_glob (v := nv 24) (by rfl) gP ⟨_, rfl⟩) pa_nil)) (blkOk_by (N := ["word", "place"]) (sc := defScope s_spots_of) (by decide +kernel))
      (fun _ _ _ _ _ => pg_name (i := 1) sc_spots_of.nd rfl (.inl rfl)) (fun _ _ _ _ _ => pts_one (pt_cmpR op_eq (pe_op op_and (pe_op op_shr (pv 0) (pv 1)) pe_int) pe_int (nomark _))) (fun _ _ _ _ _ => pv 1))), ?_⟩
    refine s_retL (lc_r (n := 24) (fun i => m.testBit i) nv (ea_cons ev_c ea_nil) (by decide) (fun _ => rfl) (fun i _ H1 _ => et_is (et_test (ev_op (y := nv 1) (ev_op (y := nv 1) (ev_op (ev_var rfl) (ev_var rfl) rv_shr) ev_c rv_and) ev_c rv_eqN)) (bit_test m i)) (fun i _ H1 _ _ => ev_var rfl)) fun p H1 np e hp => q p H1 np e hp
def spAllOn : Sp := fun vs H Q _ => ∃ n, vs = [nv n] ∧ n ≤ 24 ∧ RetV (nv (2 ^ n - 1)) H Q
theorem ok_all_on (D : Df K mg "all_on" s_all_on) : Ok P w K mg base 1 "all_on" ["places"] spAllOn := by
  refine ok_mk D (fun f fd F => F.binds fun _ _ _ _ _ _ us hl => match us, hl with | [_], _ => rfl) fun f fd F => F.ok sc_all_on (fun vs H Q E h => ?_) (fun cdv A outer s H vs Q E hr h => ?_)
  · obtain ⟨m, rfl, _⟩ := h; rfl
  · obtain ⟨n, rfl, hn, q⟩ := h
    refine ⟨_, pss_one (ps_ret (pe_op op_sub (pe_op op_shl pe_int (pv 0)) pe_int)), ?_⟩
    refine s_ret (ev_op (y := nv 1) (ev_op (x := nv 1) ev_c (ev_var rfl) (rv_shl (by decide) (by omega))) ev_c (rv_subN (by have := Nat.two_pow_pos n; omega))) fun H1 e => ?_
    rw [Nat.one_mul]
    exact q H1 e
end
end K7
namespace K7
open PySem PySem.Spec PyProof.Rows L2 Evl K71
/-! ### sorted(a list of lists of numbers) -/
def rowLe (a b : List Nat) : Prop := natI a ≤ natI b
abbrev refs {α : Type} (L : List (Addr × α)) : List V := L.map fun e => V.ref e.1
def rSortedRows (K : PySem.W.Frag) : List V → Hp → VK → Prop := fun vs H Q => ∃ (a : Addr) (L : List (Addr × List Nat)), vs = [.ref a] ∧ SqL K H a (refs L) ∧ (∀ e, e ∈ L → SqL K H e.1 (nvs e.2)) ∧
  ∀ (L' : List (Addr × List Nat)) (p : Addr), L'.Perm L → (L'.map (·.2)).Pairwise rowLe → H p = none → Q (.ref p) (upd H p (.lst (refs L')))
theorem refs_vals : ∀ {L : List (Addr × List Nat)} {us : List Value}, Vals (refs L) us → us = L.map fun e => Value.ref e.1
  | [], us, r => by
    have r' : Vals [] us := r
    cases r'; rfl
  | e :: L, us, r => by
    have r' : Vals (V.ref e.1 :: refs L) us := r
    cases r' with
    | cons h q =>
      have h' : _ = Value.ref e.1 := h
      rw [h', refs_vals q]; rfl
theorem vals_refs : ∀ L : List (Addr × List Nat), Vals (refs L) (L.map fun e => Value.ref e.1)
  | [] => .nil
  | e :: L => .cons rfl (vals_refs L)
theorem each_refs : ∀ {out : List Value} {L : List (Addr × List Nat)}, PySem.W.EachIs (fun v (e : Addr × List Nat) => v = Value.ref e.1) out L → out = L.map fun e => Value.ref e.1
  | _, _, .nil => rfl
  | _, _, .cons h t => by rw [h, each_refs t]; rfl
theorem refs_each {R : Value → (Addr × List Nat) → Prop} : ∀ {L : List (Addr × List Nat)}, (∀ e, e ∈ L → R (.ref e.1) e) → PySem.W.EachIs R (L.map fun e => Value.ref e.1) L
  | [], _ => .nil
  | e :: L, h => .cons (h e List.mem_cons_self) (refs_each fun x hx => h x (List.mem_cons_of_mem _ hx))
theorem dp_ints {K : PySem.W.Frag} {H : Hp} : ∀ ns : List Nat, DpAll K H (nvs ns) ((natI ns).map PyData.int)
  | [] => .nil
  | n :: ns => .cons (.int _) (dp_ints ns)
theorem dp_row {K : PySem.W.Frag} {H : Hp} {a : Addr} {ns : List Nat} (h : SqL K H a (nvs ns)) : Dp K H (.ref a) (.list ((natI ns).map PyData.int)) := .lst h (dp_ints ns)
theorem cr_sortedRows {X : Cx} (hu : X.A.units + 64 < cLine) : CallR X (.builtin "sorted") (rSortedRows X.K) := by
  intro pins s σ H vs us Q I r h
  obtain ⟨a, L, rfl, hs, hL, q⟩ := h
  obtain ⟨its, rv, hl, hz⟩ := I.list hs
  rw [Vals.ref1 r]
  have ei := refs_vals rv
  have hz' : L.length ≤ sizeLine := by rw [List.length_map] at hz; exact hz
  subst ei
  refine PySem.W.sorted_data (R := fun v (e : Addr × List Nat) => v = Value.ref e.1) (bs := L) (enc := fun e => .list ((natI e.2).map PyData.int)) hl.isList (refs_each fun _ _ => rfl) (refs_each fun e he => Dp.reads I _ _ _ (dp_row (hL e he)) rfl)
    (PySem.W.AllAlike.of fun b b' => by simp [PySem.W.alike]; exact PySem.W.alike_ints _ _) (PySem.W.Sortable.others fun b => ⟨fun e => (nomatch e), fun _ e => (nomatch e)⟩) hz' (fun b _ => by
      show X.A.units + 2 + (PyData.list ((natI b.2).map PyData.int)).depth < cLine
      rw [PyData.depth, PySem.W.depth_ints]; omega) fun out hlen ho => ?_
  have eo := each_refs ho
  rw [PySem.W.dataLe_rows] at eo
  have hperm := List.mergeSort_perm L (fun p q => decide (natI p.2 ≤ natI q.2))
  have hsort0 := List.pairwise_mergeSort (le := fun (p q : Addr × List Nat) => decide (natI p.2 ≤ natI q.2)) (fun a b c h k => decide_eq_true (List.le_trans (of_decide_eq_true h) (of_decide_eq_true k))) (fun a b => by
    rcases List.le_total (natI a.2) (natI b.2) with h | h
    · rw [decide_eq_true h]; rfl
    · rw [decide_eq_true h, Bool.or_true]) L
  have hsort : ((L.mergeSort fun p q => decide (natI p.2 ≤ natI q.2)).map (·.2)).Pairwise rowLe := List.pairwise_map.mpr (hsort0.imp fun h => of_decide_eq_true h)
  clear hsort0
  generalize L.mergeSort (fun p q => decide (natI p.2 ≤ natI q.2)) = L' at *
  obtain ⟨ep, he'⟩ := PyProof.Rows.sortedAll_at s.heap (L.map fun e => Value.ref e.1) out.toArray
  have hl' : (refs L').length ≤ sizeLine := by rw [List.length_map, hperm.length_eq]; exact hz'
  have rvo : Vals (refs L') out := by rw [eo]; exact vals_refs L'
  exact ⟨.ref _, upd H (s.heap.objs.size + 1) (.lst (refs L')), I.laid (t' := s.toks) (fun _ _ => PyProof.Rows.sortedAll_old) (Nat.le_succ _) ⟨hl', out, ep, rvo, he'⟩, rfl, q L' _ hperm hsort (I.hok.fresh (Nat.le_succ _))⟩
/-! ### comprehensions whose items are new lists -/
/-- p: a new list of new lists -/
def NewLs (H1 H2 : Hp) (p : Addr) (M : List (List Nat)) : Prop := H1 p = none ∧ Ex H1 H2 ∧ ∃ L : List (Addr × List Nat), L.map (·.2) = M ∧ H2 p = some (.lst (refs L)) ∧ ∀ e, e ∈ L → H1 e.1 = none ∧ H2 e.1 = some (.lst (nvs e.2))
def EvLs (te : TE) (σ : L2.St) (H : Hp) (M : List (List Nat)) : Prop := ∀ H1, Ex H H1 → ∀ Q : VK, (∀ p H2, NewLs H1 H2 p M → Q (.ref p) H2) → te σ H1 Q
section
variable {K : PySem.W.Frag} {σ : L2.St} {H H' : Hp} {ta tb te tx tl : TE} {t u : TT}
theorem lcs_core {α : Type} {a : Addr} {l : List α} {enc : α → V} {j : Nat} {vs : List Nat} (φ : α → List Nat) {H1 : Hp} (hx : SqL K H1 a (l.map enc)) (hz : l.length ≤ 40000) (hw : ∀ x, wipe ((wipe σ vs).set j (some x)) vs = wipe σ vs)
    (he : ∀ x, x ∈ l → EvL te ((wipe σ vs).set j (some (enc x))) H1 (nvs (φ x))) {Q : VK} (q : ∀ p H2, NewLs H1 H2 p (l.map φ) → Q (.ref p) H2) : tLc (iList K (tC (.ref a))) (gName j) tYes te vs σ H1 Q := by
  refine ⟨a, rfl, ⟨_, hx⟩, fun D hD => ?_⟩
  refine lc_list (K := K) (a := a) (xs := l.map enc) (Qd := fun H => Q (.ref D) H) (fun i H' => Ex H1 H' ∧ ∃ L : List (Addr × List Nat), L.map (·.2) = (l.take i).map φ ∧ L.length ≤ i ∧ H' D = some (.lst (refs L)) ∧ ∀ e, e ∈ L → e.1 ≠ D ∧ H1 e.1 = none ∧ H' e.1 = some (.lst (nvs e.2)))
    ⟨Ex.new hD, [], rfl, Nat.le_refl _, upd_same, fun _ h => nomatch h⟩ (fun i H' _ p => ex_l p.1 hx) (fun i x H' hi p => ?_) (fun H' p => ?_)
  · obtain ⟨e, L, eL, lL, hL, aL⟩ := p
    rw [List.getElem?_map] at hi
    cases ex : l[i]? with
    | none => rw [ex] at hi; cases hi
    | some y =>
      rw [ex] at hi
      obtain rfl : enc y = x := Option.some.inj hi
      have hil : i < l.length := (List.getElem?_eq_some_iff.mp ex).1
      refine ⟨hw _, ?_⟩
      show te _ _ _
      refine he y (List.mem_of_getElem? ex) H' e _ fun r H4 nr e4 hr => ?_
      have nrD : r ≠ D := fun z => by rw [z, hL] at nr; cases nr
      refine ⟨refs L, e4 _ _ hL, by rw [List.length_map]; exact sz_lt (by omega), Ex.mut (e.trans e4) hD, L ++ [(r, φ y)], ?_, by rw [List.length_append]; show L.length + 1 ≤ i + 1; omega, ?_, fun z hz => ?_⟩
      · rw [List.map_append, eL, take_snoc ex, List.map_append]; rfl
      · rw [upd_same]; show _ = some (HO.lst (refs (L ++ [(r, φ y)]))); unfold refs; rw [List.map_append]; rfl
      · rcases List.mem_append.mp hz with hz | hz
        · obtain ⟨z1, z2, z3⟩ := aL z hz
          exact ⟨z1, z2, by rw [upd_ne z1]; exact e4 _ _ z3⟩
        · obtain rfl := List.mem_singleton.mp hz
          exact ⟨nrD, fresh_back e nr, by rw [upd_ne nrD]; exact hr⟩
  · obtain ⟨e, L, eL, lL, hL, aL⟩ := p
    rw [List.length_map, List.take_of_length_le (Nat.le_refl _)] at eL
    exact q D H' ⟨hD, e, L, eL, hL, fun z hz => (aL z hz).2⟩
/-- over a list that stands -/
theorem lcs_l {α : Type} {a : Addr} {l : List α} {enc : α → V} {j : Nat} {vs : List Nat} (φ : α → List Nat) (h : Ev tl σ H (.ref a)) (hx : SqL K H a (l.map enc)) (hz : l.length ≤ 40000) (hw : ∀ x, wipe ((wipe σ vs).set j (some x)) vs = wipe σ vs)
    (he : ∀ x, x ∈ l → ∀ H1, Ex H H1 → EvL te ((wipe σ vs).set j (some (enc x))) H1 (nvs (φ x))) : EvLs (tLc (iList K tl) (gName j) tYes te vs) σ H (l.map φ) := fun H1 e Q q =>
  h H1 e _ fun H2 e2 => lcs_core (K := K) (a := a) (l := l) (enc := enc) φ (ex_l (e.trans e2) hx) hz hw (fun x hx => he x hx H2 (e.trans e2)) (fun p H3 ⟨n1, n2, L, n3, n4, n5⟩ => q p H3 ⟨fresh_back e2 n1, e2.trans n2, L, n3, n4, fun z hz => ⟨fresh_back e2 (n5 z hz).1, (n5 z hz).2⟩⟩)
/-- over a new list -/
theorem lcs_nl {α : Type} {l : List α} {enc : α → V} {j : Nat} {vs : List Nat} (φ : α → List Nat) (h : EvL tl σ H (l.map enc)) (hz : l.length ≤ 40000) (hw : ∀ x, wipe ((wipe σ vs).set j (some x)) vs = wipe σ vs)
    (he : ∀ x, x ∈ l → ∀ H1, Ex H H1 → EvL te ((wipe σ vs).set j (some (enc x))) H1 (nvs (φ x))) : EvLs (tLc (iList K tl) (gName j) tYes te vs) σ H (l.map φ) := fun H1 e Q q =>
  h H1 e _ fun a H2 _ e2 hx => lcs_core (K := K) (a := a) (l := l) (enc := enc) φ (sq_of hx) hz hw (fun x hx => he x hx H2 (e.trans e2)) (fun p H3 ⟨n1, n2, L, n3, n4, n5⟩ => q p H3 ⟨fresh_back e2 n1, e2.trans n2, L, n3, n4, fun z hz => ⟨fresh_back e2 (n5 z hz).1, (n5 z hz).2⟩⟩)
end
end K7
namespace K7
open PySem PySem.Spec PyProof.Rows L2 Evl K71
theorem masks_len (B : List Nat) : (masksOf B).length ≤ B.length := by
  have aux : ∀ (r ms : List Nat), (r.foldl maskTurn ms).length ≤ ms.length + r.length := by
    intro r
    induction r with
    | nil => intro ms; exact Nat.le_refl _
    | cons w r ih =>
      intro ms
      have a := ih (maskTurn ms w)
      have b : (maskTurn ms w).length ≤ ms.length + 1 := by
        unfold maskTurn maskIn
        rw [maskIn_ap, List.length_append]
        have := List.length_filter_le (fun m => decide (m &&& w = 0)) ms
        show ([] ++ _).length + 1 ≤ _
        rw [List.nil_append]
        omega
      rw [List.foldl_cons, List.length_cons]
      omega
  have := aux B []
  simpa [masksOf] using this
theorem masks_snoc {B : List Nat} {i w : Nat} (h : B[i]? = some w) : masksOf (B.take (i + 1)) = maskTurn (masksOf (B.take i)) w := by
  unfold masksOf
  rw [take_snoc h, List.foldl_append]; rfl
section
variable {P : Program} {w : World} {K : PySem.W.Frag} {mg : Str → Option Value} {base : Heap}
def spMasks (K : PySem.W.Frag) : Sp := fun vs H Q _ => ∃ t B, vs = [.ref t] ∧ SqT K H t (nvs B) ∧ B.length ≤ 500 ∧ RetL (nvs (masksOf B)) H Q
theorem ok_masks_of (D : Df K mg "masks_of" s_masks_of) : Ok P w K mg base 1 "masks_of" ["basis"] (spMasks K) := by
  refine ok_mk D (fun f fd F => F.binds fun _ _ _ _ _ _ us hl => match us, hl with | [_], _ => rfl) fun f fd F => F.ok sc_masks_of (fun vs H Q E h => ?_) (fun cdv A outer s H vs Q E hr h => ?_)
  · obtain ⟨t, B, rfl, _⟩ := h; rfl
  · obtain ⟨t, B, rfl, hB, hl, q⟩ := h
    refine ⟨_, pss_cons (ps_set (i := 1) sc_masks_of.nd rfl (.inl rfl) (pe_lst pa_nil))
      (pss_cons (ps_for PassesOwn.never rfl (pi_tup (pv 0)) (pg_name (i := 2) sc_masks_of.nd rfl (.inl rfl))
        (pss_cons (ps_par (i := 3) (j := 4) (by rfl) sc_masks_of.nd rfl rfl (by decide) rfl rfl (pa_cons (pv 2) (pa_cons (pe_lst pa_nil) pa_nil)) (by rfl))
        (pss_cons (ps_for PassesOwn.never rfl (pi_list (pv 1)) (pg_name (i := 5) sc_masks_of.nd rfl (.inl rfl))
          (pss_one (ps_if (pt_cmpR op_eq (pe_op op_and (pv 5) (pv 2)) pe_int (nomark _))
            (pss_one (ps_expr (pe_bm PySem.F.plainAttrs_list PySem.F.slot_list_append PySem.F.type_list_append mt_append (pv 4) (pa_cons (pv 5) pa_nil))))
            (pss_one (ps_set (i := 3) sc_masks_of.nd rfl (.inl rfl) (pe_op op_or (pv 3) (pv 5)))))))
        (pss_one (ps_set (i := 1) sc_masks_of.nd rfl (.inl rfl) (pe_op op_cat (pv 4) (pe_lst (pa_cons (pv 3) pa_nil))))))))
      (pss_one (ps_ret (pv 1)))), ?_⟩
    refine q_asgL (el_lst ea_nil (Nat.zero_le _)) fun o H1 no e1 ho => ?_
    refine q_forT (ev_var rfl) (ex_t e1 hB) (fun i σ' H' => ∃ o y2 y3 y4 y5, σ' = [some (.ref t), some (.ref o), y2, y3, y4, y5] ∧ Ex H H' ∧ H o = none ∧ H' o = some (.lst (nvs (masksOf (B.take i)))))
      (fun H2 e2 => ⟨o, none, none, none, none, rfl, e1.trans e2, no, e2 _ _ ho⟩) (fun i σ' H' _ ⟨_, _, _, _, _, _, e, _⟩ => ex_t e hB) ?_ ?_
    · rintro i x σ' H' hx ⟨o, y2, y3, y4, y5, rfl, e, no, ho⟩
      obtain ⟨n, hn, rfl⟩ := nvs_get hx
      have hi : i < B.length := (List.getElem?_eq_some_iff.mp hn).1
      have lM : (masksOf (B.take i)).length ≤ 500 := by
        have a := masks_len (B.take i)
        rw [List.length_take] at a; omega
      rw [masks_snoc hn]
      generalize masksOf (B.take i) = M at *
      refine ⟨nv n, rfl, Nat.zero_le _, fun ap nap => ⟨nv n, .ref ap, rfl, ?_⟩⟩
      have nao : o ≠ ap := ne_of_none ho nap
      have napH : H ap = none := fresh_back e nap
      refine q_forL (ev_var rfl) (sq_of (by rw [upd_ne nao]; exact ho)) (fun j σ2 H2 => ∃ y5, σ2 = [some (.ref t), some (.ref o), some (nv n), some (nv ((M.take j).foldl (maskStep n) (n, [])).1), some (.ref ap), y5] ∧ Ex H H2 ∧ H2 o = some (.lst (nvs M)) ∧ H2 ap = some (.lst (nvs ((M.take j).foldl (maskStep n) (n, [])).2)))
        (fun H2 e2 => ⟨y5, rfl, (e.trans (Ex.new nap)).trans e2, e2 _ _ (by rw [upd_ne nao]; exact ho), e2 _ _ upd_same⟩) (fun j σ2 H2 _ ⟨_, _, _, h, _⟩ => sq_of h) ?_ ?_
      · rintro j x σ2 H2 hx ⟨y5, rfl, e2, ho2, ha2⟩
        obtain ⟨m, hm, rfl⟩ := nvs_get hx
        have hj : j < M.length := (List.getElem?_eq_some_iff.mp hm).1
        have es : (M.take (j + 1)).foldl (maskStep n) (n, []) = maskStep n ((M.take j).foldl (maskStep n) (n, [])) m := by
          rw [take_snoc hm, List.foldl_append]; rfl
        rw [es]
        have ls : ((M.take j).foldl (maskStep n) (n, [])).2.length ≤ j := by
          rw [maskIn_ap]
          have a := List.length_filter_le (fun k => decide (k &&& n = 0)) (M.take j)
          rw [List.length_take] at a
          show ([] ++ _).length ≤ j
          rw [List.nil_append]; omega
        generalize (M.take j).foldl (maskStep n) (n, []) = st at *
        refine s_if (b := decide (m &&& n = 0)) (et_test (ev_op (y := nv 0) (ev_op (ev_var rfl) (ev_var rfl) rv_and) ev_c rv_eqN)) (fun h0 H3 e3 => ?_) (fun h0 H3 e3 => ?_)
        · have h0 := of_decide_eq_true h0
          refine s_app (l := ap) (e3 _ _ ha2) (ev_var rfl) (ev_var rfl) (by rw [nvs_len]; omega) fun H4 e4 => ⟨some (nv m), ?_, Ex.mut ((e2.trans e3).trans e4) napH, by rw [upd_ne nao]; exact e4 _ _ (e3 _ _ ho2), ?_⟩
          · unfold maskStep; rw [if_pos h0]; rfl
          · rw [upd_same]; unfold maskStep; rw [if_pos h0]; unfold nvs; rw [List.map_append]; rfl
        · have h0 := of_decide_eq_false h0
          refine s_asg (ev_op (ev_var rfl) (ev_var rfl) rv_or) fun H4 e4 => ⟨some (nv m), ?_, (e2.trans e3).trans e4, e4 _ _ (e3 _ _ ho2), ?_⟩
          · unfold maskStep; rw [if_neg h0]; rfl
          · rw [e4 _ _ (e3 _ _ ha2)]; unfold maskStep; rw [if_neg h0]
      · rintro σ2 H2 ⟨y5, rfl, e2, ho2, ha2⟩
        have ht : M.take (nvs M).length = M := List.take_of_length_le (by rw [nvs_len]; exact Nat.le_refl _)
        rw [ht] at ha2 ⊢
        have ls : (M.foldl (maskStep n) (n, [])).2.length ≤ 500 := by
          rw [maskIn_ap]
          have a := List.length_filter_le (fun k => decide (k &&& n = 0)) M
          show ([] ++ _).length ≤ 500
          rw [List.nil_append]; omega
        refine s_asgL (el_catV (ev_var rfl) ha2 (el_lst (ea_cons (ev_var rfl) ea_nil) (by show 1 ≤ 100000; decide)) (by rw [nvs_len]; show _ + 1 ≤ 100000; omega)) fun p H3 np e3 hp => ⟨p, some (nv n), _, _, y5, rfl, e2.trans e3, fresh_back e2 np, ?_⟩
        rw [hp]
        unfold maskTurn maskIn nvs
        rw [List.map_append]; rfl
    · rintro σ' H' ⟨o, y2, y3, y4, y5, rfl, e, no, ho⟩
      have ht : B.take (nvs B).length = B := List.take_of_length_le (by rw [nvs_len]; exact Nat.le_refl _)
      rw [ht] at ho
      exact s_ret (ev_var rfl) fun H1 e1 => q o H1 no (e.trans e1) (e1 _ _ ho)
end
end K7
namespace K7
open PySem PySem.Spec PyProof.Rows L2 Evl K71
theorem spots_len (m : Nat) : (spots m).length ≤ 24 := by
  unfold spots
  have a := List.length_filter_le (fun i => m.testBit i) (List.range 24)
  rw [List.length_range] at a
  exact a
def Sorted (M R : List (List Nat)) : Prop := M.Perm R ∧ M.Pairwise rowLe
theorem q_asgLs {σ : L2.St} {H : Hp} {te : TE} {tz : TS} {D : Ends} {i : Nat} {M : List (List Nat)} (h : EvLs te σ H M) (k : ∀ p H1, NewLs H H1 p M → tz D (σ.set i (some (.ref p))) H1) : tSeq (tAsg te (gName i)) tz D σ H := h H (Ex.refl H) _ k
theorem s_retCat {σ : L2.St} {H : Hp} {ta tb : TE} {D : Ends} {r : List V → Hp → VK → Prop} {M : List (List Nat)} (h : EvLs ta σ H M) (k : ∀ p H1, NewLs H H1 p M → tb σ H1 fun y H2 => rCat (.ref p) y H2 fun x H3 => r [x] H3 D.rt) : tRet (tCB r (tCons (tOp rCat ta tb) tNil)) D σ H := h H (Ex.refl H) _ k
section
variable {P : Program} {w : World} {K : PySem.W.Frag} {mg : Str → Option Value} {base : Heap}
theorem spl_spots {m : Nat} {H : Hp} : SpL spSpots [nv m] H (nvs (spots m)) := fun H1 e Q q E => ⟨m, rfl, q⟩
def spPartsOf (K : PySem.W.Frag) : Sp := fun vs H Q _ => ∃ n t B, vs = [nv n, .ref t] ∧ SqT K H t (nvs B) ∧ B.length ≤ 500 ∧ n ≤ 24 ∧ ∀ H' p M, NewLs H H' p M → Sorted M (partsRaw n B) → Q (.ref p) H'
theorem ok_parts_of (D : Df K mg "parts_of" s_parts_of) (T : Free mg) (OM : Ok P w K mg base 1 "masks_of" ["basis"] (spMasks K)) (OS : Ok P w K mg base 1 "spots_of" ["word"] spSpots) (OA : Ok P w K mg base 1 "all_on" ["places"] spAllOn) : Ok P w K mg base 2 "parts_of" ["places", "basis"] (spPartsOf K) := by
  refine ok_mk D (fun f fd F => F.binds fun _ _ _ _ _ _ us hl => match us, hl with | [_, _], _ => rfl) fun f fd F => F.ok sc_parts_of (fun vs H Q E h => ?_) (fun cdv A outer s H vs Q E hr h => ?_)
  · obtain ⟨n, t, B, rfl, _⟩ := h; rfl
  · obtain ⟨n, t, B, rfl, hB, hl, hn, q⟩ := h
    obtain ⟨f1, fd1, g1, k1, b1, G1⟩ := OM.ex
    obtain ⟨f2, fd2, g2, k2, b2, G2⟩ := OS.ex
    obtain ⟨f3, fd3, g3, k3, b3, G3⟩ := OA.ex
    refine ⟨_, pss_cons (ps_par (i := 2) (j := 3) (by rfl) sc_parts_of.nd rfl rfl (by decide) rfl rfl (pa_cons (pe_call G1 hr (by rfl) g1 k1 b1 .nil pass0 (pa_cons (pv 1) pa_nil)) (pa_cons pe_int pa_nil)) (by rfl))
      (pss_cons (ps_for PassesOwn.never rfl (pi_list (pv 2)) (pg_name (i := 4) sc_parts_of.nd rfl (.inl rfl)) (pss_one (ps_set (i := 3) sc_parts_of.nd rfl (.inl rfl) (pe_op op_or (pv 3) (pv 4)))))
      (pss_cons (ps_setLc (i := 5) (own := [("place", 6)]) (g := gName 6) (tt := tYes) (by rfl) sc_parts_of.nd rfl rfl (sw_true rfl rfl rfl (by decide +kernel))
        (pi_list (pe_call G2 hr (by rfl) g2 k2 b2 .nil pass0 (pa_cons (pe_op op_xor (pe_call G3 hr (by rfl) g3 k3 b3 .nil pass0 (pa_cons (pv 0) pa_nil)) (pv 3)) pa_nil)))
        (blkOk_by (N := ["places", "basis", "masks", "used", "mask", "lone", "place"]) (sc := defScope s_parts_of) (by decide +kernel)) (fun _ _ _ _ _ => pg_name (i := 6) sc_parts_of.nd rfl (.inl rfl)) (fun _ _ _ _ _ => pts_nil) (fun _ _ _ _ _ => pe_lst (pa_cons (pv 6) pa_nil)))
      (pss_one (ps_ret (pe_callB (cr_sortedRows hr.units) (by rfl) T.sorted (by decide +kernel) (pa_cons (pe_op op_cat (pe_lc (own := [("mask", 4)]) (g := gName 4) (tt := tYes) rfl sc_parts_of.nd (pi_list (pv 2))
        (blkOk_by (N := ["places", "basis", "masks", "used", "mask", "lone", "place"]) (sc := defScope s_parts_of) (by decide +kernel)) (fun _ _ _ _ _ => pg_name (i := 4) sc_parts_of.nd rfl (.inl rfl)) (fun _ _ _ _ _ => pts_nil)
        (fun _ _ _ _ _ => pe_call G2 hr (by rfl) g2 k2 b2 .nil pass0 (pa_cons (pv 4) pa_nil))) (pv 5)) pa_nil)))))), ?_⟩
    refine ⟨.ref t, rfl, t, B, rfl, hB, hl, fun m H1 nm e1 hm => ⟨.ref m, nv 0, rfl, ?_⟩⟩
    have lM : (masksOf B).length ≤ 500 := Nat.le_trans (masks_len B) hl
    have eR : partsRaw n B = (masksOf B).map spots ++ (spots ((2 ^ n - 1) ^^^ used (masksOf B))).map fun p => [p] := rfl
    rw [eR] at q
    generalize masksOf B = M at *
    refine q_forL (ev_var rfl) (sq_of hm) (fun i σ' H' => ∃ y4, σ' = [some (nv n), some (.ref t), some (.ref m), some (nv ((M.take i).foldl (· ||| ·) 0)), y4, none, none] ∧ Ex H1 H') (fun H2 e2 => ⟨none, rfl, e2⟩) (fun i σ' H' _ ⟨_, _, e⟩ => sq_of (e _ _ hm)) ?_ ?_
    · rintro i x σ' H' hx ⟨y4, rfl, e⟩
      obtain ⟨o, ho, rfl⟩ := nvs_get hx
      rw [take_snoc ho, List.foldl_append]
      exact s_asg (ev_op (ev_var rfl) (ev_var rfl) rv_or) fun H2 e2 => ⟨some (nv o), rfl, e.trans e2⟩
    · rintro σ' H2 ⟨y4, rfl, e2⟩
      have ht : M.take (nvs M).length = M := List.take_of_length_le (by rw [nvs_len]; exact Nat.le_refl _)
      rw [ht]
      show tSeq _ _ _ _ _
      have eu : M.foldl (· ||| ·) 0 = used M := rfl
      rw [eu]
      generalize used M = u at *
      refine q_asgLs (lcs_nl (K := K) (l := spots ((2 ^ n - 1) ^^^ u)) (enc := nv) (fun p => [p]) (el_call (ea_cons (ev_op (ev_call (ea_cons (ev_var rfl) ea_nil) fun H1 e Q q _ => ⟨n, rfl, hn, q⟩) (ev_var rfl) rv_xor) ea_nil) spl_spots) (Nat.le_trans (spots_len _) (by decide)) (fun _ => rfl)
        (fun x _ H3 _ => el_lst (ea_cons (ev_var rfl) ea_nil) (by show 1 ≤ 100000; decide))) fun lo H3 N3 => ?_
      obtain ⟨nlo, e3, L2', eL2, hlo, aL2⟩ := N3
      refine s_retCat (lcs_l (K := K) (l := M) (enc := nv) spots (ev_var rfl) (sq_of (e3 _ _ (e2 _ _ hm))) (by omega) (fun _ => rfl) (fun x _ H4 _ => el_call (ea_cons (ev_var rfl) ea_nil) spl_spots)) fun ls H4 N4 => ?_
      obtain ⟨nls, e4, L1', eL1, hls, aL1⟩ := N4
      have E2 : Ex H H2 := e1.trans e2
      have l1 : L1'.length = M.length := by
        have := congrArg List.length eL1
        rw [List.length_map, List.length_map] at this; exact this
      have l2 : L2'.length ≤ 24 := by
        have a := congrArg List.length eL2
        rw [List.length_map, List.length_map] at a
        have := spots_len ((2 ^ n - 1) ^^^ u)
        omega
      refine ⟨.ref lo, rfl, ls, lo, _, _, rfl, rfl, hls, e4 _ _ hlo, sz_of (by unfold refs; rw [List.length_map, List.length_map]; omega), fun r nr => ?_⟩
      have e5 := Ex.new (o := HO.lst (refs L1' ++ refs L2')) nr
      have aL : ∀ e, e ∈ L1' ++ L2' → H e.1 = none ∧ (upd H4 r (.lst (refs L1' ++ refs L2'))) e.1 = some (.lst (nvs e.2)) := fun e he => by
        rcases List.mem_append.mp he with he | he
        · exact ⟨fresh_back (E2.trans e3) (aL1 e he).1, e5 _ _ (aL1 e he).2⟩
        · exact ⟨fresh_back E2 (aL2 e he).1, e5 _ _ (e4 _ _ (aL2 e he).2)⟩
      refine ⟨r, L1' ++ L2', rfl, sq_of (by rw [upd_same]; unfold refs; rw [List.map_append]), fun e he => sq_of (aL e he).2, fun L' p hperm hsort np => ?_⟩
      refine q _ p (L'.map (·.2)) ⟨fresh_back (((E2.trans e3).trans e4).trans e5) np, (((E2.trans e3).trans e4).trans e5).trans (Ex.new np), L', rfl, upd_same, fun e he => ?_⟩ ⟨?_, hsort⟩
      · obtain ⟨h1, h2⟩ := aL e (hperm.mem_iff.mp he)
        exact ⟨h1, by rw [upd_ne (fun z => by rw [z, np] at h2; cases h2)]; exact h2⟩
      · have z := hperm.map (·.2)
        rw [List.map_append, eL1, eL2] at z
        exact z
def spParts (K : PySem.W.Frag) (CR : Addr) : Sp := fun vs H Q _ => ∃ r n B, vs = [.ref r] ∧ RoomAt K CR H r n B ∧ B.length ≤ 500 ∧ n ≤ 24 ∧ ∀ H' p M, NewLs H H' p M → Sorted M (partsRaw n B) → Q (.ref p) H'
theorem fn_parts {CR fR f : Addr} {fd : FuncData} (F : Fun K "parts" "parts" s_parts f fd) (T : Cl2 K mg "Room" "own_places" "own_basis" CR fR) (OW : Ok P w K mg base 1 "want_room" ["value"] (spNone (isRm CR))) (OP : Ok P w K mg base 2 "parts_of" ["places", "basis"] (spPartsOf K)) : FnOk P w K mg base CX0 3 f fd ["room"] (spParts K CR) := by
  refine F.ok sc_parts (fun vs H Q E h => ?_) (fun cdv A outer s H vs Q E hr h => ?_)
  · obtain ⟨r, n, B, rfl, _⟩ := h; rfl
  · obtain ⟨r, n, B, rfl, hR, hl, hn, q⟩ := h
    obtain ⟨f1, fd1, g1, k1, b1, G1⟩ := OW.ex
    obtain ⟨f2, fd2, g2, k2, b2, G2⟩ := OP.ex
    refine ⟨_, pss_cons (ps_expr (pe_call G1 (hr.mono (by decide)) (by rfl) g1 k1 b1 .nil pass0 (pa_cons (pv 0) pa_nil)))
      (pss_one (ps_ret (pe_call G2 hr (by rfl) g2 k2 b2 .nil pass0 (pa_cons (pe_fld (pv 0) rfl) (pa_cons (pe_fld (pv 0) rfl) pa_nil))))), ?_⟩
    obtain ⟨dx, t, hr1, hB⟩ := hR
    refine q_drop (ev_call (ea_cons (ev_var rfl) ea_nil) (spv_none fun H1 e1 => ⟨r, dx, _, rfl, e1 _ _ hr1⟩)) fun H1 e1 => ?_
    refine ⟨.ref r, rfl, r, CR, dx, _, nv n, rfl, e1 _ _ hr1, T.cl, T.nx, two_fst own_ne, .ref r, rfl, r, CR, dx, _, .ref t, rfl, e1 _ _ hr1, T.cl, T.ny, two_snd, ?_⟩
    refine ⟨n, t, B, rfl, ex_t e1 hB, hl, hn, fun H2 p M N S => q H2 p M ?_ S⟩
    obtain ⟨n1, n2, L, n3, n4, n5⟩ := N
    exact ⟨fresh_back e1 n1, e1.trans n2, L, n3, n4, fun z hz => ⟨fresh_back e1 (n5 z hz).1, (n5 z hz).2⟩⟩
/-- parts, called by place and by name -/
def gOne {α : Type} : List α → List α → List α
  | [], [w] => [w]
  | _, _ => []
theorem gOne_rel {vs : List V} {us : List Value} {zs : List V} {ws : List Value} (h : Vals vs us) (k : Vals zs ws) : Vals (gOne vs zs) (gOne us ws) := by
  cases h with
  | nil =>
    cases k with
    | nil => exact .nil
    | cons r t =>
      cases t with
      | nil => exact .cons r .nil
      | cons _ _ => exact .nil
  | cons _ _ => exact .nil
structure OkP (P : Program) (w : World) (K : PySem.W.Frag) (mg : Str → Option Value) (base : Heap) (CR : Addr) : Prop where
  ex : ∃ (f : Addr) (fd : FuncData), mg "parts" = some (.ref f) ∧ PySem.W.keepIn K (.ref f) = true ∧ Binds K fd ["room"] [] ∧ KBinds K fd ["room"] ["room"] gOne gOne ∧ FnOk P w K mg base CX0 3 f fd ["room"] (spParts K CR)
theorem ok_parts {CR fR : Addr} (D : Df K mg "parts" s_parts) (T : Cl2 K mg "Room" "own_places" "own_basis" CR fR) (OW : Ok P w K mg base 1 "want_room" ["value"] (spNone (isRm CR))) (OP : Ok P w K mg base 2 "parts_of" ["places", "basis"] (spPartsOf K)) : OkP P w K mg base CR := by
  obtain ⟨f, fd, g, F⟩ := D.ex
  refine ⟨f, fd, g, F.kp, F.binds fun _ _ _ _ _ _ us hl => (match us, hl with | [_], _ => rfl), ⟨fun s us ws _ hl => ?_, gOne_rel⟩, fn_parts F T OW OP⟩
  obtain ⟨oc, od, kV, doc, pm, an, cdv, ct, osl, rfl, lk, hcd⟩ := F.ex
  match us, ws, hl with
  | [], [v], _ => exact .of_eq rfl
/-- a def called by keywords alone -/
theorem pe_byNames {X : Cx} {CX : CXT} {k : Nat} {f : Addr} {fd : FuncData} {ps ks : List Str} {sp : Sp} {E : XK} {x : Str} {p pos : Pos} {kws : List Keyword} {tk : TA} {g : List Value → List Value → List Value} {gV : List V → List V → List V}
    (F : FnOk X.prog X.w X.K X.mg X.base CX k f fd ps sp) (room : Room k X.A) (glob : Gl X x) (here : X.mg x = some (.ref f)) (kept : PySem.W.keepIn X.K (.ref f) = true) (bind : KBinds X.K fd ps ks g gV) (pass : Passes CX X E) (args : PK X kws tk)
    (named : (backToKw pos (keywordEach kws X.env)).all (·.1.isSome) = true := by rfl) (names : (backToKw pos (keywordEach kws X.env)).filterMap (·.1) = ks := by rfl) (plain : (x == ("__debug__" : Str)) = false := by decide)
    (noStar : ((backTo pos (starEach [] X.env)).any (·.1) || (backToKw pos (keywordEach kws X.env)).any (·.1.isNone)) = false := by rfl) : PE X (.Call (.Name x p) [] kws pos) (tCallK sp gV E tNil tk) :=
  ⟨fun pins s σ H Q I h => wpAny_Call_Name_kw (ld_glob I glob here (PySem.W.callWith_KW0 (h₀ := X.base) I.ok.mod.kin kept named (thn (args.run pos pins s σ H _ I h) fun ws s2 ⟨zs, H2, I2, rz, q2⟩ => ⟨I2.kIn, by
    rw [names]; exact run_fnk (us := []) (vs := []) F room bind pass I2 .nil rz q2⟩) noStar) plain)⟩
end
end K7
namespace K7
open PySem PySem.Spec PyProof.Rows L2 Evl K71
/-! ### the pot: two numbers that are drawn from -/
def PotAt (H : Hp) (p : Addr) : Prop := ∃ a b : Nat, H p = some (.lst [nv a, nv b]) ∧ b < 2147483648
theorem PotAt.ex {H H' : Hp} {p : Addr} (h : PotAt H p) (e : Ex H H') : PotAt H' p := by
  obtain ⟨a, b, h, k⟩ := h
  exact ⟨a, b, e _ _ h, k⟩
theorem PotAt.upd {H : Hp} {p q : Addr} {o : HO} (h : PotAt H p) (n : p ≠ q) : PotAt (L2.upd H q o) p := by
  obtain ⟨a, b, h, k⟩ := h
  exact ⟨a, b, by rw [upd_ne n]; exact h, k⟩
section
variable {P : Program} {w : World} {K : PySem.W.Frag} {mg : Str → Option Value} {base : Heap}
def cell0 : List Int → Nat
  | [] => 311
  | m :: _ => m.natAbs
def spPot (K : PySem.W.Frag) : Sp := fun vs H Q _ => ∃ (a : Addr) (ns : List Int), vs = [.ref a, .int 0] ∧ SqL K H a (ns.map V.int) ∧ ns.length ≤ 63 ∧ ∀ H' p, H p = none → Ex H H' → PotAt H' p → Q (.ref p) H'
theorem ok_pot (D : Df K mg "_law_pot" s_l_pot) (T : Free mg) : Ok P w K mg base 1 "_law_pot" ["_law_script", "_law_k"] (spPot K) := by
  refine ok_mk D (fun f fd F => F.binds fun _ _ _ _ _ _ us hl => match us, hl with | [_, _], _ => rfl) fun f fd F => F.ok sc_l_pot (fun vs H Q E h => ?_) (fun cdv A outer s H vs Q E hr h => ?_)
  · obtain ⟨a, ns, rfl, _⟩ := h; rfl
  · obtain ⟨a, ns, rfl, hA, hl, q⟩ := h
    refine ⟨_, pss_cons (ps_set (i := 2) sc_l_pot.nd rfl (.inl rfl) (pe_op op_add (pe_op op_mul pe_int (pv 1)) pe_int))
      (pss_cons (ps_if (pt_cmpR op_lt (pv 1) (pe_callB call_len_seq (by rfl) T.len PySem.boot_len (pa_cons (pv 0) pa_nil)) (nomark _))
        (pss_one (ps_set (i := 2) sc_l_pot.nd rfl (.inl rfl) (pe_callB call_abs (by rfl) T.abs (by decide +kernel) (pa_cons (pe_ix ix_list (pv 0) (pv 1) (fun _ _ => rfl)) pa_nil)))) pss_nil)
      (pss_one (ps_ret (pe_lst (pa_cons (pe_callB (call_max2 rfl) (by rfl) T.max (by decide +kernel) (pa_cons pe_int (pa_cons (pe_op op_sub (pv 2) (pe_op op_pow pe_int pe_int)) pa_nil)))
        (pa_cons (pe_op op_add (pe_op op_mod (pe_callTy call_int1 (by rfl) T.int (by decide +kernel) (pa_cons (pe_op op_add (pe_op op_add (pe_op op_mul (pe_op op_mod (pe_callTy call_int1 (by rfl) T.int (by decide +kernel) (pa_cons (pv 2) pa_nil)) pe_int) pe_int) (pe_op op_mul pe_int (pv 1))) pe_int) pa_nil)) pe_int) pe_int) pa_nil)))))), ?_⟩
    have rint : ∀ (n : Nat) (H : Hp), RC (fun xs H Q => (∃ i, xs = [V.int i] ∧ Q (.int i) H) ∨ ∃ k, xs = [V.bl k] ∧ Q (.int (if k then 1 else 0)) H) [nv n] H (nv n) := fun n H H1 e Q q => .inl ⟨_, rfl, q H1 (Ex.refl H1)⟩
    have rabs : ∀ (i : Int) (H : Hp), RC (fun xs H Q => ∃ i, xs = [V.int i] ∧ Q (.int (if i < 0 then -i else i)) H) [V.int i] H (nv i.natAbs) := fun i H H1 e Q q => ⟨i, rfl, by
      have e : (if i < 0 then -i else i) = ((i.natAbs : Nat) : Int) := by split <;> omega
      rw [e]; exact q H1 (Ex.refl H1)⟩
    have rmax : ∀ (c : Nat) (H : Hp), RC (fun xs H Q => ∃ i j, xs = [V.int i, V.int j] ∧ Q (.int (if j > i then j else i)) H) [nv 0, .int ((c : Int) - 10 ^ 18)] H (nv (c - 10 ^ 18)) := fun c H H1 e Q q => ⟨_, _, rfl, by
      have e : (if ((c : Int) - 10 ^ 18) > ((0 : Nat) : Int) then ((c : Int) - 10 ^ 18) else ((0 : Nat) : Int)) = ((c - 10 ^ 18 : Nat) : Int) := by split <;> omega
      rw [e]; exact q H1 (Ex.refl H1)⟩
    refine q_asg (v := nv 311) (ev_op (x := nv 0) (y := nv 311) (ev_op (x := nv 479) (y := nv 0) ev_c (ev_var rfl) (rv_mulN (by decide))) ev_c rv_addN) fun H1 e1 => ?_
    refine q_ifAsg (b := decide (0 < ns.length)) (v := nv (cell0 ns)) (et_is (et_test (ev_op (x := nv 0) (ev_var rfl) (ev_len (xs := ns.map V.int) (ev_var rfl) (ex_l e1 hA)) (rv_ltN (b := (ns.map V.int).length)))) (by rw [List.length_map])) (fun hb => ?_) (fun hb => ?_) fun H2 e2 => ?_
    · cases ns with
      | nil => exact absurd (of_decide_eq_true hb) (by simp)
      | cons m r => exact ev_cb (ea_cons (ev_op (x := .ref a) (y := .int 0) (ev_var rfl) (ev_var rfl) (rv_ixL (xs := (m :: r).map V.int) (v := .int m) (ex_l e1 hA) (atI_nat (j := 0) rfl))) ea_nil) (rabs m _)
    · cases ns with
      | nil => rfl
      | cons m r => exact absurd (Nat.succ_pos _) (of_decide_eq_false hb)
    · generalize cell0 ns = c
      refine s_retL (el_lst (ea_cons (ev_cb (ea_cons (ev_c (v := nv 0)) (ea_cons (ev_op (ev_var rfl) (ev_op ev_c ev_c (rv_I (i := 10) (j := 18) ⟨by decide, by decide, by decide⟩)) (rv_I0 (i := (c : Int)) (j := 10 ^ 18))) ea_nil)) (rmax c _))
        (ea_cons (ev_op (y := nv 1) (ev_op (y := nv 2147483563) (ev_cb (ea_cons (ev_op (y := nv 17) (ev_op (ev_op (y := nv 48271) (ev_op (y := nv 2147483549) (ev_cb (ea_cons (ev_var rfl) ea_nil) (rint c _)) ev_c (rv_modN (by decide))) ev_c (rv_mulN (by
            have := Nat.mod_lt c (show 0 < 2147483549 by decide)
            exact Nat.lt_trans this (by decide)))) (ev_op (x := nv 3559) (y := nv 0) ev_c (ev_var rfl) (rv_mulN (by decide))) rv_addN) ev_c rv_addN) ea_nil) (rint _ _)) ev_c (rv_modN (by decide))) ev_c rv_addN) ea_nil)) (by show 2 ≤ 100000; decide)) fun p H3 np e3 hp => q H3 p (fresh_back (e1.trans e2) np) ((e1.trans e2).trans e3) ⟨_, _, hp, by
        exact Nat.lt_of_le_of_lt (Nat.mod_lt _ (show 0 < 2147483563 by decide)) (by decide)⟩
end
end K7
namespace K7
open PySem PySem.Spec PyProof.Rows L2 Evl K71
theorem q_asgCB {σ : L2.St} {H : Hp} {tz : TS} {D : Ends} {r : List V → Hp → VK → Prop} {ta : TA} {g : TG} {vs : List V} (h : EvA ta σ H vs) (k : ∀ H1, Ex H H1 → r vs H1 (fun x H2 => g x σ H2 fun σ2 H3 => tz D σ2 H3)) : tSeq (tAsg (tCB r ta) g) tz D σ H := h H (Ex.refl H) _ k
theorem q_asgEv {σ : L2.St} {H : Hp} {tz : TS} {D : Ends} {te : TE} {g : TG} {v : V} (h : Ev te σ H v) (k : ∀ H1, Ex H H1 → g v σ H1 (fun σ2 H3 => tz D σ2 H3)) : tSeq (tAsg te g) tz D σ H := h H (Ex.refl H) _ k
section
variable {P : Program} {w : World} {K : PySem.W.Frag} {mg : Str → Option Value} {base : Heap}
theorem rc_int {n : Nat} {H : Hp} : RC (fun xs H Q => (∃ i, xs = [V.int i] ∧ Q (.int i) H) ∨ ∃ k, xs = [V.bl k] ∧ Q (.int (if k then 1 else 0)) H) [nv n] H (nv n) := fun H1 e Q q => .inl ⟨_, rfl, q H1 (Ex.refl H1)⟩
def spDraw : Sp := fun vs H Q _ => ∃ p s, vs = [.ref p, nv s] ∧ PotAt H p ∧ 0 < s ∧ s < 1073741824 ∧ ∀ H' d, d < s → But p H H' → PotAt H' p → Q (nv d) H'
theorem ok_draw (D : Df K mg "_law_draw" s_l_draw) (T : Free mg) : Ok P w K mg base 1 "_law_draw" ["_law_pot_here", "_law_size"] spDraw := by
  refine ok_mk D (fun f fd F => F.binds fun _ _ _ _ _ _ us hl => match us, hl with | [_, _], _ => rfl) fun f fd F => F.ok sc_l_draw (fun vs H Q E h => ?_) (fun cdv A outer s H vs Q E hr h => ?_)
  · obtain ⟨p, s, rfl, _⟩ := h; rfl
  · obtain ⟨p, s, rfl, ⟨a, b, hp, hb⟩, h0, h1, q⟩ := h
    refine ⟨_, pss_cons (ps_if (pt_cmpR op_gt (pe_ix ix_list (pv 0) pe_int (fun _ _ => rfl)) pe_int (nomark _))
        (pss_cons (ps_asg (pe_callB call_divmod (by rfl) T.divmod (by decide +kernel) (pa_cons (pe_ix ix_list (pv 0) pe_int (fun _ _ => rfl)) (pa_cons (pv 1) pa_nil))) (pg_tup rfl (pgs_cons (pg_sub (pv 0) pe_int set_list) (pgs_cons (pg_name (i := 2) sc_l_draw.nd rfl (.inl rfl)) pgs_nil))))
          (pss_one (ps_ret (pv 2)))) pss_nil)
      (pss_cons (ps_asg (pe_op op_mod (pe_callTy call_int1 (by rfl) T.int (by decide +kernel) (pa_cons (pe_op op_add (pe_op op_mul (pe_ix ix_list (pv 0) pe_int (fun _ _ => rfl)) pe_int) pe_int) pa_nil)) pe_int) (pg_sub (pv 0) pe_int set_list))
      (pss_one (ps_ret (pe_op op_mod (pe_callTy call_int1 (by rfl) T.int (by decide +kernel) (pa_cons (pe_op op_fdiv (pe_op op_mod (pe_callTy call_int1 (by rfl) T.int (by decide +kernel) (pa_cons (pe_op op_mul (pe_ix ix_list (pv 0) pe_int (fun _ _ => rfl)) (pe_ix ix_list (pv 0) pe_int (fun _ _ => rfl))) pa_nil)) pe_int) pe_int) pa_nil)) (pv 1))))), ?_⟩
    refine q_when (b := decide (0 < a)) (et_test (ev_op (y := nv 0) (ev_op (x := .ref p) (y := .int 0) (ev_var rfl) ev_c (rv_ixL (v := nv a) (sq_of hp) (atI_nat (j := 0) rfl))) ev_c rv_gtN)) (fun h H1 e1 => ?_) (fun h H1 e1 => ?_)
    · refine q_asgCB (ea_cons (ev_op (x := .ref p) (y := .int 0) (ev_var rfl) ev_c (rv_ixL (v := nv a) (sq_of (e1 _ _ hp)) (atI_nat (j := 0) rfl))) (ea_cons (ev_var rfl) ea_nil)) fun H2 e2 => ⟨(a : Int), (s : Int), rfl, ⟨by omega, by omega⟩, fun t nt => ?_⟩
      have hp2 : H2 p = some (.lst [nv a, nv b]) := e2 _ _ (e1 _ _ hp)
      have npt : p ≠ t := ne_of_none hp2 nt
      refine ⟨t, [nv (a / s), nv (a % s)], rfl, st_of upd_same, rfl, nv (a / s), [nv (a % s)], rfl, .ref p, rfl, p, [nv a, nv b], 0, 0, rfl, rfl, by rw [upd_ne npt]; exact hp2, rfl, nv (a % s), [], rfl, rfl, ?_⟩
      refine ⟨nv (a % s), rfl, q _ _ (Nat.mod_lt _ h0) (fun c o hc ho => ?_) ⟨a / s, b, upd_same, hb⟩⟩
      rw [upd_ne hc]
      exact Ex.new nt _ _ (e2 _ _ (e1 _ _ ho))
    · have hp1 := e1 _ _ hp
      have lb : b * 39373 < 2 ^ 64 := by omega
      refine q_asgEv (ev_op (y := nv 2147483587) (ev_cb (ea_cons (ev_op (y := nv 3559) (ev_op (y := nv 39373) (ev_op (x := .ref p) (y := .int 1) (ev_var rfl) ev_c (rv_ixL (v := nv b) (sq_of hp1) (atI_nat (j := 1) rfl))) ev_c (rv_mulN (by omega))) ev_c rv_addN) ea_nil) rc_int) ev_c (rv_modN (by decide))) fun H2 e2 => ?_
      have hp2 := e2 _ _ hp1
      have lb' : (b * 39373 + 3559) % 2147483587 < 2147483587 := Nat.mod_lt _ (by decide)
      generalize (b * 39373 + 3559) % 2147483587 = b' at *
      refine ⟨.ref p, rfl, p, [nv a, nv b], 1, 1, rfl, rfl, hp2, rfl, ?_⟩
      have hp3 : (upd H2 p (.lst [nv a, nv b'])) p = some (.lst [nv a, nv b']) := upd_same
      refine s_ret (ev_op (ev_cb (ea_cons (ev_op (y := nv 17) (ev_op (y := nv 2147483563) (ev_cb (ea_cons (ev_op (ev_op (x := .ref p) (y := .int 1) (ev_var rfl) ev_c (rv_ixL (v := nv b') (sq_of hp3) (atI_nat (j := 1) rfl))) (ev_op (x := .ref p) (y := .int 1) (ev_var rfl) ev_c (rv_ixL (v := nv b') (sq_of hp3) (atI_nat (j := 1) rfl))) (rv_mulN (by omega))) ea_nil) rc_int) ev_c (rv_modN (by decide))) ev_c (rv_divN (by decide) (by decide))) ea_nil) rc_int) (ev_var rfl) (rv_modN h0)) fun H3 e3 => ?_
      refine q _ _ (Nat.mod_lt _ h0) (fun c o hc ho => e3 _ _ ?_) ⟨a, b', e3 _ _ hp3, by omega⟩
      rw [upd_ne hc]
      exact e2 _ _ (e1 _ _ ho)
def spPick : Sp := fun vs H Q _ => ∃ (p a : Addr) (xs : List V), vs = [.ref p, .ref a] ∧ PotAt H p ∧ H a = some (.lst xs) ∧ a ≠ p ∧ 0 < xs.length ∧ xs.length < 1000000 ∧ ∀ H' x, x ∈ xs → But p H H' → PotAt H' p → Q x H'
theorem ok_pick (D : Df K mg "_law_pick" s_l_pick) (T : Free mg) (OD : Ok P w K mg base 1 "_law_draw" ["_law_pot_here", "_law_size"] spDraw) : Ok P w K mg base 2 "_law_pick" ["_law_pot_here", "_law_some"] spPick := by
  refine ok_mk D (fun f fd F => F.binds fun _ _ _ _ _ _ us hl => match us, hl with | [_, _], _ => rfl) fun f fd F => F.ok sc_l_pick (fun vs H Q E h => ?_) (fun cdv A outer s H vs Q E hr h => ?_)
  · obtain ⟨p, a, xs, rfl, _⟩ := h; rfl
  · obtain ⟨p, a, xs, rfl, hp, ha, nap, h0, h1, q⟩ := h
    obtain ⟨f1, fd1, g1, k1, b1, G1⟩ := OD.ex
    refine ⟨_, pss_one (ps_ret (pe_ix ix_list (pv 1) (pe_call G1 hr (by rfl) g1 k1 b1 .nil pass0 (pa_cons (pv 0) (pa_cons (pe_callB call_len_seq (by rfl) T.len PySem.boot_len (pa_cons (pv 1) pa_nil)) pa_nil))) (fun _ _ => rfl))), ?_⟩
    refine ⟨.ref a, rfl, .ref p, rfl, .ref a, rfl, a, xs, rfl, .inl (sq_of ha), p, xs.length, rfl, hp, h0, by omega, fun H' d hd bt hp' => ?_⟩
    refine ⟨a, xs, (d : Int), xs[d], rfl, rfl, sq_of (bt a _ nap ha), atI_nat (List.getElem?_eq_getElem hd), q H' _ (List.getElem_mem hd) bt hp'⟩
/-! ### words of places -/
def wordOf (ns : List Nat) : Nat := (ns.map fun i => 2 ^ i).sum
theorem sum_natI : ∀ ns : List Nat, (natI ns).sum = ((ns.sum : Nat) : Int)
  | [] => rfl
  | n :: ns => by
    have ih := sum_natI ns
    show ((n : Int) :: natI ns).sum = (((n :: ns).sum : Nat) : Int)
    rw [List.sum_cons, List.sum_cons, ih]
    omega
theorem rc_sum {a : Addr} {ns : List Nat} {H : Hp} (h : SqL K H a (nvs ns)) : RC (rSum K) [.ref a] H (nv ns.sum) := fun H1 e Q q => ⟨a, natI ns, rfl, by rw [natI_v]; exact ex_l e h, by
  rw [sum_natI]; exact q H1 (Ex.refl H1)⟩
/-- a call of a built-in on a new list -/
theorem ev_cbL {σ : L2.St} {H : Hp} {te : TE} {r : List V → Hp → VK → Prop} {xs : List V} {z : V} (h : EvL te σ H xs) (hr : ∀ p H1, H1 p = some (.lst xs) → RC r [.ref p] H1 z) : Ev (tCB r (tCons te tNil)) σ H z := fun H1 e Q q =>
  h H1 e _ fun p H2 _ e2 hp => hr p H2 hp H2 (Ex.refl H2) Q fun H3 e3 => q H3 (e2.trans e3)
def spWord (K : PySem.W.Frag) : Sp := fun vs H Q _ => ∃ (a : Addr) (ns : List Nat), vs = [.ref a] ∧ SqL K H a (nvs ns) ∧ ns.length ≤ 1000 ∧ (∀ i, i ∈ ns → i ≤ 1000) ∧ RetV (nv (wordOf ns)) H Q
theorem ok_word (D : Df K mg "_law_word" s_l_word) (T : Free mg) : Ok P w K mg base 1 "_law_word" ["_law_spots"] (spWord K) := by
  refine ok_mk D (fun f fd F => F.binds fun _ _ _ _ _ _ us hl => match us, hl with | [_], _ => rfl) fun f fd F => F.ok sc_l_word (fun vs H Q E h => ?_) (fun cdv A outer s H vs Q E hr h => ?_)
  · obtain ⟨a, ns, rfl, _⟩ := h; rfl
  · obtain ⟨a, ns, rfl, hA, hl, hi, q⟩ := h
    refine ⟨_, pss_one (ps_ret (pe_callB (cr_sum rfl) (by rfl) T.sum (by decide +kernel) (pa_cons (pe_lc (own := [("_law_spot", 1)]) (g := gName 1) (tt := tYes) rfl sc_l_word.nd (pi_list (pv 0)) (blkOk_by (N := ["_law_spots", "_law_spot"]) (sc := defScope s_l_word) (by decide +kernel))
      (fun _ _ _ _ _ => pg_name (i := 1) sc_l_word.nd rfl (.inl rfl)) (fun _ _ _ _ _ => pts_nil) (fun _ _ _ _ _ => pe_op op_shl pe_int (pv 1))) pa_nil))), ?_⟩
    refine s_ret (v := nv (wordOf ns)) (ev_cbL (lc_l (l := ns) (enc := nv) (fun _ => true) (fun i => nv (2 ^ i)) (ev_var rfl) hA (by omega) (fun _ => rfl) (fun _ _ _ _ => et_yes) (fun i h H1 _ _ => ev_is (ev_op (x := nv 1) ev_c (ev_var rfl) (rv_shl (by decide) (by have := hi i h; omega))) (by rw [Nat.one_mul]))) fun p H1 hp => ?_) q
    refine rc_sum (ns := ns.map fun i => 2 ^ i) (sq_of ?_)
    rw [hp, List.filter_eq_self.mpr fun _ _ => rfl]
    unfold nvs
    rw [List.map_map]; rfl
end
end K7
namespace K7
open PySem PySem.Spec PyProof.Rows L2 Evl K71
theorem ev_callL {σ : L2.St} {H : Hp} {te : TE} {sp : Sp} {E : XK} {xs : List V} {z : V} (h : EvL te σ H xs) (hs : ∀ p H1, H1 p = some (.lst xs) → SpV sp [.ref p] H1 z) : Ev (tCall sp [] E (tCons te tNil)) σ H z := fun H1 e Q q =>
  h H1 e _ fun p H2 _ e2 hp => hs p H2 hp H2 (Ex.refl H2) Q (fun H3 e3 => q H3 (e2.trans e3)) E
theorem bit_test2 (m i : Nat) : decide ((m >>> i) % 2 = 1) = m.testBit i := by
  rw [Nat.testBit_eq_decide_div_mod_eq, Nat.shiftRight_eq_div_pow]
def ledW (seq : List Nat) (w : Nat) : Nat := wordOf (((List.range seq.length).filter fun i => w.testBit i).map fun i => seq.getD i 0)
theorem inV_nvs (n : Nat) (F : List Nat) : inV (nv n) (nvs F) = decide (n ∈ F) := by
  unfold inV nvs
  rw [List.any_map]
  induction F with
  | nil => rfl
  | cons a F ih =>
    rw [List.any_cons, ih]
    have e : (eqV (nv a) (nv n)) = decide (n = a) := by
      show ((a : Int) == (n : Int)) = _
      rw [Bool.beq_eq_decide_eq]
      exact decide_eq_decide.mpr (by omega)
    show (eqV (nv a) (nv n) || decide (n ∈ F)) = _
    rw [e]
    by_cases h : n = a
    · subst h; rw [decide_eq_true rfl, Bool.true_or, decide_eq_true List.mem_cons_self]
    · rw [decide_eq_false h, Bool.false_or]
      exact decide_eq_decide.mpr ⟨fun k => List.mem_cons_of_mem _ k, fun k => (List.mem_cons.mp k).resolve_left h⟩
theorem flat_nvs (F : List Nat) : (nvs F).all flatV = true := by
  unfold nvs
  rw [List.all_map]
  exact List.all_eq_true.mpr fun _ _ => rfl
def spanStep (F : List Nat) (w : Nat) : List Nat := if w ∈ F then F else F ++ F.map fun o => o ^^^ w
theorem spanStep_len (ws : List Nat) : (ws.foldl spanStep [0]).length ≤ 2 ^ ws.length := by
  have aux : ∀ (r F : List Nat), (r.foldl spanStep F).length ≤ F.length * 2 ^ r.length := by
    intro r
    induction r with
    | nil => intro F; simp
    | cons w r ih =>
      intro F
      have a := ih (spanStep F w)
      have b : (spanStep F w).length ≤ F.length * 2 := by
        unfold spanStep
        split
        · omega
        · rw [List.length_append, List.length_map]; omega
      rw [List.foldl_cons, List.length_cons, Nat.pow_succ]
      refine Nat.le_trans a ?_
      rw [Nat.mul_comm (2 ^ r.length) 2, ← Nat.mul_assoc]
      exact Nat.mul_le_mul_right _ b
  have := aux ws [0]
  simpa using this
def within (ws sp : List Nat) : Nat := Nat.log2 (ws.filter fun x => decide (x ||| wordOf sp = wordOf sp)).length
section
variable {P : Program} {w : World} {K : PySem.W.Frag} {mg : Str → Option Value} {base : Heap}
theorem spv_word {a : Addr} {ns : List Nat} {H : Hp} (h : SqL K H a (nvs ns)) (hl : ns.length ≤ 1000) (hi : ∀ i, i ∈ ns → i ≤ 1000) : SpV (spWord K) [.ref a] H (nv (wordOf ns)) := fun H1 e Q q _ => ⟨a, ns, rfl, ex_l e h, hl, hi, q⟩
def spLed (K : PySem.W.Frag) : Sp := fun vs H Q _ => ∃ (n : Nat) (a : Addr) (ns : List Nat), vs = [nv n, .ref a] ∧ SqL K H a (nvs ns) ∧ ns.length ≤ 1000 ∧ (∀ i, i ∈ ns → i ≤ 1000) ∧ RetV (nv (ledW ns n)) H Q
theorem ok_led (D : Df K mg "_law_led" s_l_led) (T : Free mg) (OW : Ok P w K mg base 1 "_law_word" ["_law_spots"] (spWord K)) : Ok P w K mg base 2 "_law_led" ["_law_word_here", "_law_sequence_here"] (spLed K) := by
  refine ok_mk D (fun f fd F => F.binds fun _ _ _ _ _ _ us hl => match us, hl with | [_, _], _ => rfl) fun f fd F => F.ok sc_l_led (fun vs H Q E h => ?_) (fun cdv A outer s H vs Q E hr h => ?_)
  · obtain ⟨n, a, ns, rfl, _⟩ := h; rfl
  · obtain ⟨n, a, ns, rfl, hA, hl, hi, q⟩ := h
    obtain ⟨f1, fd1, g1, k1, b1, G1⟩ := OW.ex
    refine ⟨_, pss_one (ps_ret (pe_call G1 hr (by rfl) g1 k1 b1 .nil pass0 (pa_cons (pe_lc (own := [("_law_at", 2)]) (g := gName 2) rfl sc_l_led.nd (pi_range1 (by rfl) T.range (pa_cons (pe_callB call_len_seq (by rfl) T.len PySem.boot_len (pa_cons (pv 1) pa_nil)) pa_nil))
      (blkOk_by (N := ["_law_word_here", "_law_sequence_here", "_law_at"]) (sc := defScope s_l_led) (by decide +kernel)) (fun _ _ _ _ _ => pg_name (i := 2) sc_l_led.nd rfl (.inl rfl))
      (fun _ _ _ _ _ => pts_one (pt_cmpR op_eq (pe_op op_mod (pe_callTy call_int1 (by rfl) T.int (by decide +kernel) (pa_cons (pe_op op_shr (pv 0) (pv 2)) pa_nil)) pe_int) pe_int (nomark _)))
      (fun _ _ _ _ _ => pe_ix (show IxR _ (rIxL K) from ix_list) (pv 1) (pv 2) (fun _ _ => rfl))) pa_nil))), ?_⟩
    refine s_ret (v := nv (ledW ns n)) (ev_callL (lc_r (n := ns.length) (fun i => n.testBit i) (fun i => nv (ns.getD i 0)) (ea_cons (ev_is (ev_len (xs := nvs ns) (ev_var rfl) hA) (by rw [nvs_len]; rfl)) ea_nil) (by omega) (fun _ => rfl)
      (fun i _ H1 _ => et_is (et_test (ev_op (y := nv 1) (ev_op (y := nv 2) (ev_cb (ea_cons (ev_op (ev_var rfl) (ev_var rfl) rv_shr) ea_nil) rc_int) ev_c (rv_modN (by decide))) ev_c rv_eqN)) (bit_test2 n i))
      (fun i hi' H1 e1 _ => ev_op (x := .ref a) (y := .int i) (ev_var rfl) (ev_var rfl) (rv_ixL (ex_l e1 hA) (atI_nat (by
        unfold nvs
        rw [List.getElem?_map, List.getElem?_eq_getElem hi', List.getD_eq_getElem?_getD, List.getElem?_eq_getElem hi']; rfl))))) fun p H1 hp => ?_) q
    refine spv_word (K := K) (ns := ((List.range ns.length).filter fun i => n.testBit i).map fun i => ns.getD i 0) (sq_of ?_) ?_ fun i hi' => ?_
    · rw [hp]; unfold nvs; rw [List.map_map]; rfl
    · rw [List.length_map]
      have := List.length_filter_le (fun i => n.testBit i) (List.range ns.length)
      rw [List.length_range] at this
      omega
    · obtain ⟨j, hj, rfl⟩ := List.mem_map.mp hi'
      have hj := List.mem_range.mp (List.mem_filter.mp hj).1
      exact hi _ (getD_mem hj 0)
def spFree : PySem.W.Frag → Sp := fun K vs H Q _ => ∃ (a : Addr) (xs : List V), vs = [.ref a] ∧ SqL K H a xs ∧ RetV (nv (Nat.log2 xs.length)) H Q
theorem ok_free (D : Df K mg "_law_free" s_l_free) (T : Free mg) : Ok P w K mg base 1 "_law_free" ["_law_words"] (spFree K) := by
  refine ok_mk D (fun f fd F => F.binds fun _ _ _ _ _ _ us hl => match us, hl with | [_], _ => rfl) fun f fd F => F.ok sc_l_free (fun vs H Q E h => ?_) (fun cdv A outer s H vs Q E hr h => ?_)
  · obtain ⟨a, xs, rfl, _⟩ := h; rfl
  · obtain ⟨a, xs, rfl, hA, q⟩ := h
    refine ⟨_, pss_cons (ps_par (i := 1) (j := 2) (by rfl) sc_l_free.nd rfl rfl (by decide) rfl rfl (pa_cons pe_int (pa_cons (pe_callB call_len_seq (by rfl) T.len PySem.boot_len (pa_cons (pv 0) pa_nil)) pa_nil)) (by rfl))
      (pss_cons (ps_while PassesOwn.never (pt_cmpR op_gt (pv 2) pe_int (nomark _)) (pss_one (ps_par (i := 1) (j := 2) (by rfl) sc_l_free.nd rfl rfl (by decide) rfl rfl (pa_cons (pe_op op_add (pv 1) pe_int) (pa_cons (pe_op op_fdiv (pv 2) pe_int) pa_nil)) (by rfl))))
      (pss_one (ps_ret (pv 1)))), ?_⟩
    refine ⟨.ref a, rfl, a, xs, rfl, .inl hA, nv 0, nv xs.length, rfl, ?_⟩
    refine q_while (fun m σ' H' => ∃ fo, σ' = [some (.ref a), some (nv fo), some (nv m)] ∧ Ex H H' ∧ fo + Nat.log2 m = Nat.log2 xs.length) xs.length ⟨0, rfl, Ex.refl _, Nat.zero_add _⟩ ?_
    rintro m σ' H' ⟨fo, rfl, e, hm⟩
    refine ⟨decide (1 < m), et_test (ev_op (y := nv 1) (ev_var rfl) ev_c rv_gtN), fun h H1 e1 => ?_, fun h H1 e1 => ?_⟩
    · have h := of_decide_eq_true h
      refine ⟨fun σ2 H2 => ∃ fo, σ2 = [some (.ref a), some (nv fo), some (nv (m / 2))] ∧ Ex H H2 ∧ fo + Nat.log2 (m / 2) = Nat.log2 xs.length, fun σ2 H2 h2 => ⟨m / 2, by omega, h2⟩, ?_⟩
      show tPar _ _ _ _ _ _
      refine (ea_cons (ev_op (y := nv 1) (ev_var rfl) ev_c rv_addN) (ea_cons (ev_op (y := nv 2) (ev_var rfl) ev_c (rv_divN (by decide) (by decide))) ea_nil)) H1 (Ex.refl H1) _ fun H2 e2 => ⟨nv (fo + 1), nv (m / 2), rfl, fo + 1, rfl, (e.trans e1).trans e2, ?_⟩
      rw [Nat.log2_def m, if_pos (by omega)] at hm
      omega
    · have h := of_decide_eq_false h
      have hl : Nat.log2 m = 0 := by rw [Nat.log2_def, if_neg (by omega)]
      rw [hl, Nat.add_zero] at hm
      subst hm
      exact s_ret (ev_var rfl) fun H2 e2 => q H2 ((e.trans e1).trans e2)
theorem spv_free {a : Addr} {xs : List V} {H : Hp} (h : SqL K H a xs) : SpV (spFree K) [.ref a] H (nv (Nat.log2 xs.length)) := fun H1 e Q q _ => ⟨a, xs, rfl, ex_l e h, q⟩
def spWithin (K : PySem.W.Frag) : Sp := fun vs H Q _ => ∃ (a b : Addr) (ws ns : List Nat), vs = [.ref a, .ref b] ∧ SqL K H a (nvs ws) ∧ ws.length ≤ 30000 ∧ SqL K H b (nvs ns) ∧ ns.length ≤ 1000 ∧ (∀ i, i ∈ ns → i ≤ 1000) ∧ RetV (nv (within ws ns)) H Q
theorem ok_within (D : Df K mg "_law_within" s_l_within) (OW : Ok P w K mg base 1 "_law_word" ["_law_spots"] (spWord K)) (OF : Ok P w K mg base 1 "_law_free" ["_law_words"] (spFree K)) : Ok P w K mg base 2 "_law_within" ["_law_words", "_law_spots"] (spWithin K) := by
  refine ok_mk D (fun f fd F => F.binds fun _ _ _ _ _ _ us hl => match us, hl with | [_, _], _ => rfl) fun f fd F => F.ok sc_l_within (fun vs H Q E h => ?_) (fun cdv A outer s H vs Q E hr h => ?_)
  · obtain ⟨a, b, ws, ns, rfl, _⟩ := h; rfl
  · obtain ⟨a, b, ws, ns, rfl, hA, hl, hB, hl2, hi, q⟩ := h
    obtain ⟨f1, fd1, g1, k1, b1, G1⟩ := OW.ex
    obtain ⟨f2, fd2, g2, k2, b2, G2⟩ := OF.ex
    refine ⟨_, pss_cons (ps_set (i := 2) sc_l_within.nd rfl (.inr rfl) (pe_call G1 hr (by rfl) g1 k1 b1 .nil pass0 (pa_cons (pv 1) pa_nil)))
      (pss_one (ps_ret (pe_call G2 hr (by rfl) g2 k2 b2 .nil pass0 (pa_cons (pe_lc (own := [("_law_word_here", 3)]) (g := gName 3) rfl sc_l_within.nd (pi_list (pv 0))
        (blkOk_by (N := ["_law_words", "_law_spots", "_law_inside", "_law_word_here"]) (sc := defScope s_l_within) (by decide +kernel)) (fun _ _ _ _ _ => pg_name (i := 3) sc_l_within.nd rfl (.inl rfl))
        (fun _ _ _ _ _ => pts_one (pt_cmpR op_eq (pe_op op_or (pv 3) (pv 2)) (pv 2) (nomark _))) (fun _ _ _ _ _ => pv 3)) pa_nil)))), ?_⟩
    refine q_asg (ev_call (ea_cons (ev_var rfl) ea_nil) (spv_word hB hl2 hi)) fun H1 e1 => ?_
    refine s_ret (v := nv (within ws ns)) (ev_callL (lc_l (l := ws) (enc := nv) (fun x => decide (x ||| wordOf ns = wordOf ns)) nv (ev_var rfl) (ex_l e1 hA) (by omega) (fun _ => rfl)
      (fun x _ H2 _ => et_test (ev_op (ev_op (ev_var rfl) (ev_var rfl) rv_or) (ev_var rfl) rv_eqN)) (fun x _ H2 _ _ => ev_var rfl)) fun p H2 hp => ?_) (fun H2 e2 => q H2 (e1.trans e2))
    have z := spv_free (K := K) (sq_of hp)
    rw [List.length_map] at z
    exact z
theorem spv_within {a b : Addr} {ws ns : List Nat} {H : Hp} (hA : SqL K H a (nvs ws)) (hl : ws.length ≤ 30000) (hB : SqL K H b (nvs ns)) (hl2 : ns.length ≤ 1000) (hi : ∀ i, i ∈ ns → i ≤ 1000) : SpV (spWithin K) [.ref a, .ref b] H (nv (within ws ns)) := fun H1 e Q q _ => ⟨a, b, ws, ns, rfl, ex_l e hA, hl, ex_l e hB, hl2, hi, q⟩
def spSpan (K : PySem.W.Frag) : Sp := fun vs H Q _ => ∃ (a : Addr) (ws : List Nat), vs = [.ref a] ∧ SqL K H a (nvs ws) ∧ ws.length ≤ 8 ∧ ∀ H' p F, H p = none → Ex H H' → H' p = some (.lst (nvs F)) → F.Perm (ws.foldl spanStep [0]) → Q (.ref p) H'
theorem ok_span (D : Df K mg "_law_span" s_l_span) (T : Free mg) : Ok P w K mg base 1 "_law_span" ["_law_words"] (spSpan K) := by
  refine ok_mk D (fun f fd F => F.binds fun _ _ _ _ _ _ us hl => match us, hl with | [_], _ => rfl) fun f fd F => F.ok sc_l_span (fun vs H Q E h => ?_) (fun cdv A outer s H vs Q E hr h => ?_)
  · obtain ⟨a, ws, rfl, _⟩ := h; rfl
  · obtain ⟨a, ws, rfl, hA, hl, q⟩ := h
    refine ⟨_, pss_cons (ps_set (i := 1) sc_l_span.nd rfl (.inl rfl) (pe_lst (pa_cons pe_int pa_nil)))
      (pss_cons (ps_for PassesOwn.never rfl (pi_list (pv 0)) (pg_name (i := 2) sc_l_span.nd rfl (.inr rfl))
        (pss_one (ps_if (pt_cmpR op_notIn_seq (pv 2) (pv 1) (by rfl)) (pss_one (ps_set (i := 1) sc_l_span.nd rfl (.inl rfl) (pe_op op_cat (pv 1) (pe_lc (own := [("_law_old", 3)]) (g := gName 3) (tt := tYes) rfl sc_l_span.nd (pi_list (pv 1))
          (blkOk_by (N := ["_law_words", "_law_found", "_law_word_here", "_law_old"]) (sc := defScope s_l_span) (by decide +kernel)) (fun _ _ _ _ _ => pg_name (i := 3) sc_l_span.nd rfl (.inl rfl)) (fun _ _ _ _ _ => pts_nil) (fun _ _ _ _ _ => pe_op op_xor (pv 3) (pv 2)))))) pss_nil)))
      (pss_one (ps_ret (pe_callB cr_sortedI (by rfl) T.sorted (by decide +kernel) (pa_cons (pv 1) pa_nil))))), ?_⟩
    refine q_asgL (el_lst (ea_cons (ev_c (v := nv 0)) ea_nil) (by show 1 ≤ 100000; decide)) fun o H1 no e1 ho => ?_
    refine q_forL (ev_var rfl) (ex_l e1 hA) (fun i σ' H' => ∃ o y, σ' = [some (.ref a), some (.ref o), y, none] ∧ Ex H H' ∧ H o = none ∧ H' o = some (.lst (nvs ((ws.take i).foldl spanStep [0]))))
      (fun H2 e2 => ⟨o, none, rfl, e1.trans e2, no, e2 _ _ ho⟩) (fun i σ' H' _ ⟨_, _, _, e, _⟩ => ex_l e hA) ?_ ?_
    · rintro i x σ' H' hx ⟨o, y, rfl, e, no, ho⟩
      obtain ⟨n, hn, rfl⟩ := nvs_get hx
      have lF : ((ws.take i).foldl spanStep [0]).length ≤ 256 := by
        refine Nat.le_trans (spanStep_len _) ?_
        have : (ws.take i).length ≤ 8 := by rw [List.length_take]; omega
        exact Nat.pow_le_pow_right (n := 2) (by decide) this
      rw [take_snoc hn, List.foldl_append]
      show tIfS _ _ _ _ _ _
      generalize (ws.take i).foldl spanStep [0] = F at *
      refine s_when (b := !decide (n ∈ F)) (et_test (ev_is (ev_op (ev_var rfl) (ev_var rfl) (rv_niL (sq_of ho) rfl (flat_nvs F))) (by rw [inV_nvs]))) (fun h H2 e2 => ?_) (fun h H2 e2 => ?_)
      · have h' : n ∉ F := by simpa using h
        have ho2 := e2 _ _ ho
        refine s_asgL (el_catV (xs := nvs F) (ys := nvs (F.map fun k => k ^^^ n)) (ev_var rfl) ho2 ?_ (by rw [nvs_len, nvs_len, List.length_map]; omega)) fun p H3 np e3 hp => ⟨p, some (nv n), rfl, (e.trans e2).trans e3, fresh_back (e.trans e2) np, ?_⟩
        · have z := lc_l (K := K) (σ := [some (.ref a), some (.ref o), some (nv n), none]) (H := H2) (t := tYes) (te := tOp (rI0 fun i j => .int (Builtin.bitXor i j)) (tVar 3) (tVar 2)) (tl := tVar 1) (j := 3) (vs := [3]) (l := F) (enc := nv) (fun _ => true) (fun k => nv (k ^^^ n)) (ev_var rfl) (sq_of ho2) (by omega) (fun _ => rfl) (fun _ _ _ _ => et_yes) (fun k _ H3 _ _ => ev_op (ev_var rfl) (ev_var rfl) rv_xor)
          rw [List.filter_eq_self.mpr fun _ _ => rfl] at z
          have e : F.map (fun k => nv (k ^^^ n)) = nvs (F.map fun k => k ^^^ n) := by unfold nvs; rw [List.map_map]; rfl
          rw [e] at z
          exact z
        · rw [hp]
          show _ = some (HO.lst (nvs (spanStep F n)))
          unfold spanStep nvs
          rw [if_neg h', List.map_append]
      · have h' : n ∈ F := by simpa using h
        refine ⟨o, some (nv n), rfl, e.trans e2, no, ?_⟩
        rw [e2 _ _ ho]
        show _ = some (HO.lst (nvs (spanStep F n)))
        unfold spanStep
        rw [if_pos h']
    · rintro σ' H' ⟨o, y, rfl, e, no, ho⟩
      have ht : ws.take (nvs ws).length = ws := List.take_of_length_le (by rw [nvs_len]; exact Nat.le_refl _)
      rw [ht] at ho
      refine ⟨.ref o, rfl, o, natI (ws.foldl spanStep [0]), rfl, sq_of (by rw [natI_v]; exact ho), fun ns' p hperm _ np => ?_⟩
      obtain ⟨c1, c2⟩ := natI_back hperm
      refine q _ p (ns'.map Int.toNat) (fresh_back e np) (e.trans (Ex.new np)) ?_ c2
      rw [upd_same, ← natI_v, ← c1]
end
end K7
namespace K7
open PySem PySem.Spec PyProof.Rows L2 Evl K71
theorem erase_map {α β : Type} (f : α → β) : ∀ (l : List α) (i : Nat), (l.map f).eraseIdx i = (l.eraseIdx i).map f
  | [], i => rfl
  | a :: l, 0 => rfl
  | a :: l, i + 1 => by
    show f a :: (l.map f).eraseIdx i = f a :: (l.eraseIdx i).map f
    rw [erase_map f l i]
theorem erase_perm {α : Type} : ∀ (l : List α) (i : Nat) (h : i < l.length), (l[i] :: l.eraseIdx i).Perm l
  | [], i, h => absurd h (Nat.not_lt_zero i)
  | a :: l, 0, h => List.Perm.refl _
  | a :: l, i + 1, h => by
    have h' : i < l.length := Nat.lt_of_succ_lt_succ h
    have ih := erase_perm l i h'
    show (l[i] :: a :: l.eraseIdx i).Perm (a :: l)
    exact (List.Perm.swap a l[i] _).trans (ih.cons a)
theorem rg_nvs (n : Nat) : rgV 0 (n : Int) = nvs (List.range n) := by
  unfold rgV nvs
  have e : ((n : Int) - 0).toNat = n := by omega
  rw [e]
  refine List.map_congr_left fun i _ => ?_
  show V.int (0 + (i : Int)) = V.int (i : Int)
  rw [Int.zero_add]
section
variable {P : Program} {w : World} {K : PySem.W.Frag} {mg : Str → Option Value} {base : Heap}
def spSeq : Sp := fun vs H Q _ => ∃ (p : Addr) (n : Nat), vs = [.ref p, nv n] ∧ PotAt H p ∧ n ≤ 1000 ∧ ∀ H' q (F : List Nat), But p H H' → PotAt H' p → H q = none → H' q = some (.lst (nvs F)) → F.Perm (List.range n) → Q (.ref q) H'
theorem ok_sequence (D : Df K mg "_law_sequence" s_l_sequence) (T : Free mg) (OD : Ok P w K mg base 1 "_law_draw" ["_law_pot_here", "_law_size"] spDraw) : Ok P w K mg base 2 "_law_sequence" ["_law_pot_here", "_law_places"] spSeq := by
  refine ok_mk D (fun f fd F => F.binds fun _ _ _ _ _ _ us hl => match us, hl with | [_, _], _ => rfl) fun f fd F => F.ok sc_l_sequence (fun vs H Q E h => ?_) (fun cdv A outer s H vs Q E hr h => ?_)
  · obtain ⟨p, n, rfl, _⟩ := h; rfl
  · obtain ⟨p, n, rfl, hp, hn, q⟩ := h
    obtain ⟨f1, fd1, g1, k1, b1, G1⟩ := OD.ex
    refine ⟨_, pss_cons (ps_par (i := 2) (j := 3) (by rfl) sc_l_sequence.nd rfl rfl (by decide) rfl rfl (pa_cons (pe_listRg rfl (by rfl) T.list (prg_1 (by rfl) T.range (pv 1))) (pa_cons (pe_lst pa_nil) pa_nil)) (by rfl))
      (pss_cons (ps_for PassesOwn.never rfl (pi_range1 (by rfl) T.range (pa_cons (pv 1) pa_nil)) (pg_name (i := 4) sc_l_sequence.nd rfl (.inl rfl))
        (pss_one (ps_expr (pe_bm PySem.F.plainAttrs_list PySem.F.slot_list_append PySem.F.type_list_append mt_append (pv 3) (pa_cons (pe_bm PySem.F.plainAttrs_list PySem.F.slot_list_pop PySem.F.type_list_pop mt_popAt (pv 2)
          (pa_cons (pe_call G1 hr (by rfl) g1 k1 b1 .nil pass0 (pa_cons (pv 0) (pa_cons (pe_callB call_len_seq (by rfl) T.len PySem.boot_len (pa_cons (pv 2) pa_nil)) pa_nil))) pa_nil)) pa_nil)))))
      (pss_one (ps_ret (pv 3)))), ?_⟩
    refine ⟨nv n, rfl, n, rfl, RgOk.of_le (by omega) (by omega) (by omega) (by omega), fun l nl => ⟨Nat.zero_le _, fun fo nfo => ⟨.ref l, .ref fo, rfl, ?_⟩⟩⟩
    rw [rg_nvs] at nfo ⊢
    have hpH : ∃ o, H p = some o := by obtain ⟨a, b, h, _⟩ := hp; exact ⟨_, h⟩
    obtain ⟨op, hop⟩ := hpH
    have nlp : l ≠ p := fun e => by rw [e, hop] at nl; cases nl
    have nfl : fo ≠ l := fun e => by rw [e, upd_same] at nfo; cases nfo
    have nfoH : H fo = none := by rw [upd_ne nfl] at nfo; exact nfo
    have nfp : fo ≠ p := fun e => by rw [e, hop] at nfoH; cases nfoH
    refine q_forR1 (n := (n : Int)) (ea_cons (ev_var rfl) ea_nil) ⟨by omega, by omega⟩ (fun i σ' H' => ∃ y L F, σ' = [some (.ref p), some (nv n), some (.ref l), some (.ref fo), y] ∧ But p H H' ∧ PotAt H' p ∧ H' l = some (.lst (nvs L)) ∧ H' fo = some (.lst (nvs F)) ∧ (F ++ L).Perm (List.range n) ∧ L.length = n - i) (fun H1 e1 => ?_) ?_ ?_
    · refine ⟨none, List.range n, [], rfl, fun b o hb h => e1 _ _ ?_, ((hp.upd nlp.symm).upd nfp.symm).ex e1, e1 _ _ (by rw [upd_ne nfl.symm, upd_same]), e1 _ _ upd_same, List.Perm.refl _, by rw [List.length_range]; rfl⟩
      rw [upd_ne (ne_of_none h nfoH), upd_ne (ne_of_none h nl)]
      exact h
    · rintro i σ' H' hi ⟨y, L, F, rfl, bt, hp', hl, hf, hperm, hlen⟩
      have h0 : 0 < L.length := by omega
      refine ⟨.ref fo, rfl, .inl ⟨rfl, _, sq_of hf⟩, .ref l, rfl, .inl ⟨rfl, _, sq_of hl⟩, .ref p, rfl, .ref l, rfl, l, nvs L, rfl, .inl (sq_of hl), p, L.length, by rw [nvs_len]; rfl, hp', h0, by omega, fun H2 d hd bt2 hp2 => ?_⟩
      have hl2 := bt2 _ _ nlp hl
      have hf2 := bt2 _ _ nfp hf
      refine ⟨l, nvs L, (d : Int), d, nv L[d], rfl, rfl, hl2, by omega, by omega, ?_, ?_, fo, nvs F, nv L[d], rfl, rfl, by rw [upd_ne nfl]; exact hf2, ?_, ?_⟩
      · rw [nvs_len, seqIndex_at (by omega) (by omega)]; rfl
      · unfold nvs; rw [List.getElem?_map, List.getElem?_eq_getElem hd]; rfl
      · have lf : F.length ≤ n := by
          have := hperm.length_eq
          rw [List.length_append, List.length_range] at this; omega
        rw [nvs_len]; exact sz_lt (by omega)
      · refine ⟨some (nv i), L.eraseIdx d, F ++ [L[d]], rfl, fun b o hb h => ?_, (hp2.upd nlp.symm).upd nfp.symm, ?_, ?_, ?_, ?_⟩
        · rw [upd_ne (ne_of_none h nfoH), upd_ne (ne_of_none h nl)]
          exact bt2 _ _ hb (bt _ _ hb h)
        · rw [upd_ne nfl.symm, upd_same]
          unfold nvs
          rw [erase_map]
        · rw [upd_same]; unfold nvs; rw [List.map_append]; rfl
        · rw [List.append_assoc]
          exact (List.Perm.append_left F (erase_perm L d hd)).trans hperm
        · rw [List.length_eraseIdx, if_pos hd]; omega
    · rintro σ' H' ⟨y, L, F, rfl, bt, hp', hl, hf, hperm, hlen⟩
      have e0 : L = [] := List.eq_nil_of_length_eq_zero (by omega)
      subst e0
      rw [List.append_nil] at hperm
      exact ⟨.ref fo, rfl, q H' fo F bt hp' nfoH hf hperm⟩
end
end K7
namespace K7
open PySem PySem.Spec PyProof.Rows L2 Evl K71
/-! ### the told pieces -/
structure Piece where
  name : Str
  wide : Nat
  words : List Nat
  ex : Nat
def tabA : List Piece := [⟨"off", 1, [], 1⟩, ⟨"on", 1, [1], 1⟩, ⟨"2", 2, [3], 2⟩, ⟨"d4", 4, [15], 24⟩, ⟨"d6", 6, [15, 60], 48⟩, ⟨"all5", 5, [31], 120⟩]
def tabB : List Piece := [⟨"even3", 3, [3, 6], 6⟩, ⟨"e7", 7, [85, 102, 120], 168⟩, ⟨"e8", 8, [15, 60, 240, 170], 1344⟩, ⟨"d8", 8, [15, 60, 240], 384⟩]
def tabC : List Piece := [⟨"d12", 12, [15, 60, 240, 960, 3840, 2730], 23040⟩]
/-- v: a piece's tuple, its list of words new since H0 -/
def PcAt (H0 H : Hp) (v : V) (pc : Piece) : Prop := ∃ t l, v = .ref t ∧ H t = some (.tup [.str pc.name, nv pc.wide, .ref l, nv pc.ex]) ∧ H l = some (.lst (nvs pc.words)) ∧ H0 l = none
theorem PcAt.ex {H0 H H' : Hp} {v : V} {pc : Piece} (h : PcAt H0 H v pc) (e : Ex H H') : PcAt H0 H' v pc := by
  obtain ⟨t, l, h1, h2, h3, h4⟩ := h
  exact ⟨t, l, h1, e _ _ h2, e _ _ h3, h4⟩
abbrev Pcs (H0 H : Hp) (L : List (V × Piece)) : Prop := ∀ e, e ∈ L → PcAt H0 H e.1 e.2
def EvP (H0 : Hp) (te : TE) (σ : L2.St) (H : Hp) (pc : Piece) : Prop := ∀ H1, Ex H H1 → ∀ Q : VK, (∀ v H2, Ex H1 H2 → PcAt H0 H2 v pc → Q v H2) → te σ H1 Q
def EvAP (H0 : Hp) (ta : TA) (σ : L2.St) (H : Hp) (pcs : List Piece) : Prop := ∀ H1, Ex H H1 → ∀ Q : List V → Hp → Prop, (∀ L H2, Ex H1 H2 → L.map (·.2) = pcs → Pcs H0 H2 L → Q (L.map (·.1)) H2) → ta σ H1 Q
section
variable {H0 H : Hp} {σ : L2.St} {te : TE} {ta tr : TA} {pc : Piece} {pcs : List Piece}
theorem eap_nil : EvAP H0 tNil σ H [] := fun H1 _ Q q => q [] H1 (Ex.refl H1) rfl fun _ h => nomatch h
theorem eap_cons (h : EvP H0 te σ H pc) (hr : EvAP H0 tr σ H pcs) : EvAP H0 (tCons te tr) σ H (pc :: pcs) := fun H1 e Q q =>
  h H1 e _ fun v H2 e2 hv => hr H2 (e.trans e2) _ fun L H3 e3 hL hP => q ((v, pc) :: L) H3 (e2.trans e3) (by rw [List.map_cons, hL]) fun x hx => by
    rcases List.mem_cons.mp hx with rfl | hx
    · exact hv.ex e3
    · exact hP x hx
theorem evp_tup {nm : Str} {w ex : Int} {tw : TA} (hE : Ex H0 H) (h : EvA tw σ H (nvs pc.words)) (hl : pc.words.length ≤ 100000) (h1 : nm = pc.name := by rfl) (h2 : V.int w = nv pc.wide := by rfl) (h3 : V.int ex = nv pc.ex := by rfl) :
    EvP H0 (tTup (tCons (tC (.str nm)) (tCons (tC (.int w)) (tCons (tLst tw) (tCons (tC (.int ex)) tNil))))) σ H pc := fun H1 e Q q => by
  refine h H1 e _ fun H2 e2 => ⟨by rw [nvs_len]; exact sz_of hl, fun l nl => ⟨(by show 4 ≤ sizeLine; decide), fun t nt => ?_⟩⟩
  have e3 := Ex.new (o := HO.lst (nvs pc.words)) nl
  have e4 := Ex.new (o := HO.tup [V.str nm, V.int w, V.ref l, V.int ex]) nt
  refine q (.ref t) _ ((e2.trans e3).trans e4) ⟨t, l, rfl, ?_, e4 _ _ upd_same, fresh_back (hE.trans (e.trans e2)) nl⟩
  rw [upd_same, h1, h2, h3]
theorem q_asgP {i : Nat} {tz : TS} {D : Ends} (h : EvAP H0 ta σ H pcs) (hl : pcs.length ≤ 1000) (k : ∀ p H1 L, H p = none → Ex H H1 → H1 p = some (.lst (L.map (·.1))) → L.map (·.2) = pcs → Pcs H0 H1 L → tz D (σ.set i (some (.ref p))) H1) : tSeq (tAsg (tLst ta) (gName i)) tz D σ H :=
  h H (Ex.refl H) _ fun L H1 e hL hP => ⟨by
    have := congrArg List.length hL
    rw [List.length_map] at this ⊢
    exact sz_of (by omega), fun p np => k p _ L (fresh_back e np) (e.trans (Ex.new np)) upd_same hL fun x hx => (hP x hx).ex (Ex.new np)⟩
theorem q_extP {K : PySem.W.Frag} {i : Nat} {p : Addr} {xs : List V} {tz : TS} {D : Ends} (hi : σ[i]? = some (some (.ref p))) (hp : H p = some (.lst xs)) (h : EvAP H0 ta σ H pcs) (hl : xs.length ≤ 1000) (hl2 : pcs.length ≤ 1000)
    (k : ∀ b H1 L, H1 b = none → Ex H H1 → L.map (·.2) = pcs → Pcs H0 H1 L → tz D σ (upd (upd H1 b (.lst (L.map (·.1)))) p (.lst (xs ++ L.map (·.1))))) : tSeq (tDrop (tBM K "list" rExtend (tVar i) (tCons (tLst ta) tNil))) tz D σ H :=
  ⟨.ref p, hi, .inl ⟨rfl, _, sq_of hp⟩, h H (Ex.refl H) _ fun L H1 e hL hP => by
    have z : L.length = pcs.length := by
      have := congrArg List.length hL
      rw [List.length_map] at this; exact this
    refine ⟨by rw [List.length_map]; exact sz_of (by omega), fun b nb => ?_⟩
    have npb : p ≠ b := ne_of_none (e _ _ hp) nb
    exact ⟨p, b, xs, L.map (·.1), rfl, rfl, by rw [upd_ne npb]; exact e _ _ hp, upd_same, by rw [List.length_map]; exact sz_of (by omega), k b H1 L nb e hL hP⟩⟩
theorem s_retCatP {i : Nat} {p : Addr} {xs : List V} {D : Ends} (hi : σ[i]? = some (some (.ref p))) (hp : H p = some (.lst xs)) (h : EvAP H0 ta σ H pcs) (hl : xs.length ≤ 1000) (hl2 : pcs.length ≤ 1000)
    (k : ∀ d H1 L, H d = none → Ex H H1 → H1 d = some (.lst (xs ++ L.map (·.1))) → L.map (·.2) = pcs → Pcs H0 H1 L → D.rt (.ref d) H1) : tRet (tOp rCat (tVar i) (tLst ta)) D σ H :=
  ⟨.ref p, hi, h H (Ex.refl H) _ fun L H1 e hL hP => by
    have z : L.length = pcs.length := by
      have := congrArg List.length hL
      rw [List.length_map] at this; exact this
    refine ⟨by rw [List.length_map]; exact sz_of (by omega), fun c nc => ?_⟩
    have e5 := Ex.new (o := HO.lst (L.map (·.1))) nc
    refine ⟨p, c, xs, L.map (·.1), rfl, rfl, e5 _ _ (e _ _ hp), upd_same, by rw [List.length_map]; exact sz_of (by omega), fun d nd => ?_⟩
    have e6 := Ex.new (o := HO.lst (xs ++ L.map (·.1))) nd
    exact k d _ L (fresh_back (e.trans e5) nd) ((e.trans e5).trans e6) upd_same hL fun x hx => (hP x hx).ex (e5.trans e6)⟩
end
section
variable {P : Program} {w : World} {K : PySem.W.Frag} {mg : Str → Option Value} {base : Heap}
def spPieces : Sp := fun vs H Q _ => vs = [] ∧ ∀ H' p L, H p = none → Ex H H' → H' p = some (.lst (L.map (·.1))) → L.map (·.2) = tabA ++ tabB ++ tabC → Pcs H H' L → Q (.ref p) H'
theorem ok_pieces (D : Df K mg "_law_pieces" s_l_pieces) : Ok P w K mg base 1 "_law_pieces" [] spPieces := by
  refine ok_mk D (fun f fd F => F.binds fun _ _ _ _ _ _ us hl => match us, hl with | [], _ => rfl) fun f fd F => F.ok sc_l_pieces (fun vs H Q E h => ?_) (fun cdv A outer s H vs Q E hr h => ?_)
  · obtain ⟨rfl, _⟩ := h; rfl
  · obtain ⟨rfl, q⟩ := h
    refine ⟨_, pss_cons (ps_set (i := 0) sc_l_pieces.nd rfl (.inl rfl) (pe_lst (pa_cons (pe_tup (pa_cons pe_str (pa_cons pe_int (pa_cons (pe_lst pa_nil) (pa_cons pe_int pa_nil))))) (pa_cons (pe_tup (pa_cons pe_str (pa_cons pe_int (pa_cons (pe_lst (pa_cons pe_int pa_nil)) (pa_cons pe_int pa_nil))))) (pa_cons (pe_tup (pa_cons pe_str (pa_cons pe_int (pa_cons (pe_lst (pa_cons pe_int pa_nil)) (pa_cons pe_int pa_nil))))) (pa_cons (pe_tup (pa_cons pe_str (pa_cons pe_int (pa_cons (pe_lst (pa_cons pe_int pa_nil)) (pa_cons pe_int pa_nil))))) (pa_cons (pe_tup (pa_cons pe_str (pa_cons pe_int (pa_cons (pe_lst (pa_cons pe_int (pa_cons pe_int pa_nil))) (pa_cons pe_int pa_nil))))) (pa_cons (pe_tup (pa_cons pe_str (pa_cons pe_int (pa_cons (pe_lst (pa_cons pe_int pa_nil)) (pa_cons pe_int pa_nil))))) pa_nil))))))))
      (pss_cons (ps_expr (pe_bm PySem.F.plainAttrs_list PySem.F.slot_list_extend PySem.F.type_list_extend mt_extend (pv 0) (pa_cons (pe_lst (pa_cons (pe_tup (pa_cons pe_str (pa_cons pe_int (pa_cons (pe_lst (pa_cons pe_int (pa_cons pe_int pa_nil))) (pa_cons pe_int pa_nil))))) (pa_cons (pe_tup (pa_cons pe_str (pa_cons pe_int (pa_cons (pe_lst (pa_cons pe_int (pa_cons pe_int (pa_cons pe_int pa_nil)))) (pa_cons pe_int pa_nil))))) (pa_cons (pe_tup (pa_cons pe_str (pa_cons pe_int (pa_cons (pe_lst (pa_cons pe_int (pa_cons pe_int (pa_cons pe_int (pa_cons pe_int pa_nil))))) (pa_cons pe_int pa_nil))))) (pa_cons (pe_tup (pa_cons pe_str (pa_cons pe_int (pa_cons (pe_lst (pa_cons pe_int (pa_cons pe_int (pa_cons pe_int pa_nil)))) (pa_cons pe_int pa_nil))))) pa_nil))))) pa_nil)))
      (pss_one (ps_ret (pe_op op_cat (pv 0) (pe_lst (pa_cons (pe_tup (pa_cons pe_str (pa_cons pe_int (pa_cons (pe_lst (pa_cons pe_int (pa_cons pe_int (pa_cons pe_int (pa_cons pe_int (pa_cons pe_int (pa_cons pe_int pa_nil))))))) (pa_cons pe_int pa_nil))))) pa_nil)))))), ?_⟩
    have hE : Ex H H := Ex.refl H
    refine q_asgP (pcs := tabA) (H0 := H) (eap_cons (evp_tup (pc := ⟨"off", 1, [], 1⟩) hE ea_nil (by show 0 ≤ 100000; decide)) (eap_cons (evp_tup (pc := ⟨"on", 1, [1], 1⟩) hE (ea_cons (ev_c (v := nv 1)) ea_nil) (by show 1 ≤ 100000; decide)) (eap_cons (evp_tup (pc := ⟨"2", 2, [3], 2⟩) hE (ea_cons (ev_c (v := nv 3)) ea_nil) (by show 1 ≤ 100000; decide)) (eap_cons (evp_tup (pc := ⟨"d4", 4, [15], 24⟩) hE (ea_cons (ev_c (v := nv 15)) ea_nil) (by show 1 ≤ 100000; decide)) (eap_cons (evp_tup (pc := ⟨"d6", 6, [15, 60], 48⟩) hE (ea_cons (ev_c (v := nv 15)) (ea_cons (ev_c (v := nv 60)) ea_nil)) (by show 2 ≤ 100000; decide)) (eap_cons (evp_tup (pc := ⟨"all5", 5, [31], 120⟩) hE (ea_cons (ev_c (v := nv 31)) ea_nil) (by show 1 ≤ 100000; decide)) eap_nil)))))) (by decide) fun p H1 L1 np e1 hp eL1 pL1 => ?_
    have hE := e1
    have lp1 : L1.length = 6 := by
      have := congrArg List.length eL1
      rw [List.length_map] at this; exact this
    refine q_extP (pcs := tabB) (H0 := H) rfl hp (eap_cons (evp_tup (pc := ⟨"even3", 3, [3, 6], 6⟩) hE (ea_cons (ev_c (v := nv 3)) (ea_cons (ev_c (v := nv 6)) ea_nil)) (by show 2 ≤ 100000; decide)) (eap_cons (evp_tup (pc := ⟨"e7", 7, [85, 102, 120], 168⟩) hE (ea_cons (ev_c (v := nv 85)) (ea_cons (ev_c (v := nv 102)) (ea_cons (ev_c (v := nv 120)) ea_nil))) (by show 3 ≤ 100000; decide)) (eap_cons (evp_tup (pc := ⟨"e8", 8, [15, 60, 240, 170], 1344⟩) hE (ea_cons (ev_c (v := nv 15)) (ea_cons (ev_c (v := nv 60)) (ea_cons (ev_c (v := nv 240)) (ea_cons (ev_c (v := nv 170)) ea_nil)))) (by show 4 ≤ 100000; decide)) (eap_cons (evp_tup (pc := ⟨"d8", 8, [15, 60, 240], 384⟩) hE (ea_cons (ev_c (v := nv 15)) (ea_cons (ev_c (v := nv 60)) (ea_cons (ev_c (v := nv 240)) ea_nil))) (by show 3 ≤ 100000; decide)) eap_nil)))) (by rw [List.length_map, lp1]; decide) (by decide) fun b H2 L2 nb e2 eL2 pL2 => ?_
    have lp2 : L2.length = 4 := by
      have := congrArg List.length eL2
      rw [List.length_map] at this; exact this
    have hp3 : (upd (upd H2 b (.lst (L2.map (·.1)))) p (.lst (L1.map (·.1) ++ L2.map (·.1)))) p = some (.lst (L1.map (·.1) ++ L2.map (·.1))) := upd_same
    have e3 : Ex H (upd (upd H2 b (.lst (L2.map (·.1)))) p (.lst (L1.map (·.1) ++ L2.map (·.1)))) := Ex.mut ((e1.trans e2).trans (Ex.new nb)) np
    -- what the pieces' words and tuples are is not at p
    have keep : ∀ {L : List (V × Piece)}, Pcs H H2 L → Pcs H (upd (upd H2 b (.lst (L2.map (·.1)))) p (.lst (L1.map (·.1) ++ L2.map (·.1)))) L := fun {L} h x hx => by
      obtain ⟨t, l, a1, a2, a3, a4⟩ := h x hx
      have ntp : t ≠ p := ne_of a2 (e2 _ _ hp) (fun e => nomatch e)
      have nlp : l ≠ p := fun e => by
        have z := e2 _ _ hp
        rw [e, z] at a3
        have a3 := Option.some.inj a3
        injection a3 with a3
        cases L1 with
        | nil => cases lp1
        | cons y L1 =>
          obtain ⟨t', l', b1, _⟩ := pL1 y List.mem_cons_self
          cases hw : x.2.words with
          | nil => rw [hw] at a3; cases a3
          | cons u us =>
            rw [hw] at a3
            have a3 : y.1 :: L1.map (·.1) = nv u :: nvs us := a3
            injection a3 with a3 _
            rw [b1] at a3; cases a3
      exact ⟨t, l, a1, by rw [upd_ne ntp]; exact Ex.new nb _ _ a2, by rw [upd_ne nlp]; exact Ex.new nb _ _ a3, a4⟩
    have pL1' := keep (fun x hx => (pL1 x hx).ex e2)
    have pL2' := keep pL2
    generalize upd (upd H2 b (.lst (L2.map (·.1)))) p (.lst (L1.map (·.1) ++ L2.map (·.1))) = H3 at *
    have hE := e3
    refine s_retCatP (pcs := tabC) (H0 := H) rfl hp3 (eap_cons (evp_tup (pc := ⟨"d12", 12, [15, 60, 240, 960, 3840, 2730], 23040⟩) hE (ea_cons (ev_c (v := nv 15)) (ea_cons (ev_c (v := nv 60)) (ea_cons (ev_c (v := nv 240)) (ea_cons (ev_c (v := nv 960)) (ea_cons (ev_c (v := nv 3840)) (ea_cons (ev_c (v := nv 2730)) ea_nil)))))) (by show 6 ≤ 100000; decide)) eap_nil) (by rw [List.length_append, List.length_map, List.length_map, lp1, lp2]; decide) (by decide) fun d H4 L3 nd e4 hd eL3 pL3 => ?_
    refine q _ d (L1 ++ L2 ++ L3) (fresh_back e3 nd) (e3.trans e4) (by rw [hd, List.map_append, List.map_append]) (by rw [List.map_append, List.map_append, eL1, eL2, eL3]) fun x hx => ?_
    rcases List.mem_append.mp hx with hx | hx
    · rcases List.mem_append.mp hx with hx | hx
      · exact (pL1' x hx).ex e4
      · exact (pL2' x hx).ex e4
    · exact pL3 x hx
end
end K7
namespace K7
open PySem PySem.Spec PyProof.Rows L2 Evl K71
instance : Inhabited V := ⟨.non⟩
instance : Inhabited Piece := ⟨⟨"off", 0, [], 0⟩⟩
theorem q_asgLcV {K : PySem.W.Frag} {σ : L2.St} {H : Hp} {tl te : TE} {g : TG} {t : TT} {vs : List Nat} {i : Nat} {tz : TS} {D : Ends} (h : tl σ H fun x H1 => tSeq (tAsg (tLc (iList K (tC x)) g t te vs) (gName i)) tz D σ H1) : tSeq (tAsg (tLc (iList K tl) g t te vs) (gName i)) tz D σ H := h
def names10 : List Str := ["off", "on", "2", "d4", "d6", "all5", "even3", "e7", "e8", "d8"]
def okPc (pc : Piece) : Bool := inV (.str pc.name) (names10.map V.str) && decide (pc.wide ≤ 14)
/-- pieces beside one another: each with its first place; so many places -/
inductive Bld : List (Nat × Piece) → Nat → Prop
  | nil : Bld [] 0
  | snoc {C : List (Nat × Piece)} {n : Nat} {pc : Piece} : Bld C n → pc ∈ tabA ++ tabB ++ tabC → okPc pc = true → n + pc.wide ≤ 14 → Bld (C ++ [(n, pc)]) (n + pc.wide)
def wordsOf (C : List (Nat × Piece)) : List Nat := C.flatMap fun c => c.2.words.map fun g => g * 2 ^ c.1
def toldT (c : Nat × Piece) : List V := [.str c.2.name, nv c.1, nv c.2.wide, nv c.2.ex]
theorem Pcs.but {H0 H H' : Hp} {p : Addr} {o : HO} {L : List (V × Piece)} (h : Pcs H0 H L) (bt : But p H H') (hp : H p = some o) (ho : ∀ xs, o ≠ .tup xs) (h0 : H0 p ≠ none) : Pcs H0 H' L := fun x hx => by
  obtain ⟨t, l, a1, a2, a3, a4⟩ := h x hx
  refine ⟨t, l, a1, bt _ _ (fun e => ?_) a2, bt _ _ (fun e => h0 (e ▸ a4)) a3, a4⟩
  rw [e, hp] at a2
  exact ho _ (Option.some.inj a2)
theorem tab_words : ∀ pc, pc ∈ tabA ++ tabB ++ tabC → pc.words.length ≤ 6 ∧ (∀ g, g ∈ pc.words → g < 2 ^ pc.wide) ∧ 1 ≤ pc.wide ∧ pc.wide ≤ 12 := by
  intro pc h
  simp only [tabA, tabB, tabC, List.cons_append, List.nil_append, List.mem_cons, List.not_mem_nil, or_false] at h
  rcases h with rfl | rfl | rfl | rfl | rfl | rfl | rfl | rfl | rfl | rfl | rfl <;> refine ⟨by decide, by decide, by decide, by decide⟩
section
variable {P : Program} {w : World} {K : PySem.W.Frag} {mg : Str → Option Value} {base : Heap}
def spBeside : Sp := fun vs H Q _ => ∃ (p nm : Addr), vs = [.ref p, .ref nm, nv 14] ∧ PotAt H p ∧ H nm = some (.lst (names10.map V.str)) ∧
  ∀ H' r wl tl n (L : List (Addr × (Nat × Piece))), But p H H' → PotAt H' p → H' r = some (.tup [nv n, .ref wl, .ref tl]) → H' wl = some (.lst (nvs (wordsOf (L.map (·.2))))) → H' tl = some (.lst (refs L)) → (∀ e, e ∈ L → H' e.1 = some (.tup (toldT e.2))) →
    Bld (L.map (·.2)) n → 0 < n → L.length ≤ 6 → wl ≠ p → tl ≠ p → Q (.ref r) H'
theorem ok_beside (D : Df K mg "_law_beside" s_l_beside) (T : Free mg) (OP : Ok P w K mg base 1 "_law_pieces" [] spPieces) (OK : Ok P w K mg base 2 "_law_pick" ["_law_pot_here", "_law_some"] spPick) : Ok P w K mg base 3 "_law_beside" ["_law_pot_here", "_law_names", "_law_most"] spBeside := by
  refine ok_mk D (fun f fd F => F.binds fun _ _ _ _ _ _ us hl => match us, hl with | [_, _, _], _ => rfl) fun f fd F => F.ok sc_l_beside (fun vs H Q E h => ?_) (fun cdv A outer s H vs Q E hr h => ?_)
  · obtain ⟨p, nm, rfl, _⟩ := h; rfl
  · obtain ⟨p, nm, rfl, hp, hnm, q⟩ := h
    obtain ⟨f1, fd1, g1, k1, b1, G1⟩ := OP.ex
    obtain ⟨f2, fd2, g2, k2, b2, G2⟩ := OK.ex
    refine ⟨_, pss_cons (ps_setLc (i := 3) (own := [("_law_one", 4)]) (g := gName 4) (by rfl) sc_l_beside.nd rfl rfl (sw_true rfl rfl rfl (by decide +kernel)) (pi_list (pe_call0 G1 (hr.mono (by decide)) (by rfl) g1 k1 b1 .nil pass0))
        (blkOk_by (N := ["_law_pot_here", "_law_names", "_law_most", "_law_some", "_law_one", "_law_places", "_law_words", "_law_told", "_law_turn", "_law_name", "_law_wide", "_law_piece", "_law_exchanges", "_law_word_here"]) (sc := defScope s_l_beside) (by decide +kernel))
        (fun _ _ _ _ _ => pg_name (i := 4) sc_l_beside.nd rfl (.inl rfl))
        (fun _ _ _ _ _ => pts_one (PW.pt (pw_and (pt_cmpR (show OpR _ _ (rIn K false) from op_in_seq) (pe_ix (show IxR _ (rIxT K) from ix_tup) (pv 4) pe_int (fun _ _ => rfl)) (pv 1) (by rfl)) (pw_and1 (pt_cmpR op_le (pe_ix (show IxR _ (rIxT K) from ix_tup) (pv 4) pe_int (fun _ _ => rfl)) (pv 2) (nomark _))))))
        (fun _ _ _ _ _ => pv 4))
      (pss_cons (ps_asg (pe_tup (pa_cons pe_int (pa_cons (pe_lst pa_nil) (pa_cons (pe_lst pa_nil) pa_nil)))) (pg_tup rfl (pgs_cons (pg_name (i := 5) sc_l_beside.nd rfl (.inr rfl)) (pgs_cons (pg_name (i := 6) sc_l_beside.nd rfl (.inl rfl)) (pgs_cons (pg_name (i := 7) sc_l_beside.nd rfl (.inl rfl)) pgs_nil)))))
      (pss_cons (ps_for PassesOwn.never rfl (pi_range1 (by rfl) T.range (pa_cons pe_int pa_nil)) (pg_name (i := 8) sc_l_beside.nd rfl (.inl rfl))
        (pss_cons (ps_asg (pe_call G2 hr (by rfl) g2 k2 b2 .nil pass0 (pa_cons (pv 0) (pa_cons (pv 3) pa_nil))) (pg_tup rfl (pgs_cons (pg_name (i := 9) sc_l_beside.nd rfl (.inl rfl)) (pgs_cons (pg_name (i := 10) sc_l_beside.nd rfl (.inl rfl)) (pgs_cons (pg_name (i := 11) sc_l_beside.nd rfl (.inl rfl)) (pgs_cons (pg_name (i := 12) sc_l_beside.nd rfl (.inl rfl)) pgs_nil))))))
        (pss_one (ps_if (pt_cmpR op_le (pe_op op_add (pv 5) (pv 10)) (pv 2) (nomark _))
          (pss_cons (ps_set (i := 6) sc_l_beside.nd rfl (.inl rfl) (pe_op op_cat (pv 6) (pe_lc (own := [("_law_word_here", 13)]) (g := gName 13) (tt := tYes) rfl sc_l_beside.nd (pi_list (pv 11))
            (blkOk_by (N := ["_law_pot_here", "_law_names", "_law_most", "_law_some", "_law_one", "_law_places", "_law_words", "_law_told", "_law_turn", "_law_name", "_law_wide", "_law_piece", "_law_exchanges", "_law_word_here"]) (sc := defScope s_l_beside) (by decide +kernel))
            (fun _ _ _ _ _ => pg_name (i := 13) sc_l_beside.nd rfl (.inl rfl)) (fun _ _ _ _ _ => pts_nil) (fun _ _ _ _ _ => pe_op op_shl (pv 13) (pv 5)))))
          (pss_cons (ps_expr (pe_bm PySem.F.plainAttrs_list PySem.F.slot_list_append PySem.F.type_list_append mt_append (pv 7) (pa_cons (pe_tup (pa_cons (pv 9) (pa_cons (pv 5) (pa_cons (pv 10) (pa_cons (pv 12) pa_nil))))) pa_nil)))
          (pss_one (ps_set (i := 5) sc_l_beside.nd rfl (.inr rfl) (pe_op op_add (pv 5) (pv 10)))))) pss_nil))))
      (pss_one (ps_ret (pe_tup (pa_cons (pv 5) (pa_cons (pv 6) (pa_cons (pv 7) pa_nil)))))))), ?_⟩
    refine q_asgLcV (K := K) ⟨rfl, fun H1 pl Lp npl e1 hpl eLp pLp => ?_⟩
    refine q_asgL (lc_l (K := K) (l := Lp) (enc := (·.1)) (fun e => okPc e.2) (·.1) ev_c (sq_of hpl) (by
        have := congrArg List.length eLp
        rw [List.length_map] at this
        rw [this]; decide) (fun _ => rfl) (fun e he H2 e2 => ?_) (fun e _ H2 _ _ => ev_var rfl)) fun sm H2 nsm e2 hsm => ?_
    · obtain ⟨t, l, a1, a2, a3, a4⟩ := pLp e he
      rw [a1]
      refine et_and (a := inV (.str e.2.name) (names10.map V.str)) (b := decide (e.2.wide ≤ 14)) (et_test (ev_op (x := .str e.2.name) (y := .ref nm) (ev_op (x := .ref t) (y := .int 0) (ev_var rfl) ev_c (rv_ixT (st_of (e2 _ _ a2)) (atI_nat (j := 0) rfl))) (ev_var rfl) (rv_isL (sq_of (e2 _ _ (e1 _ _ hnm))) rfl (by rfl)))) fun _ => et_test (ev_op (x := nv e.2.wide) (y := nv 14) (ev_op (x := .ref t) (y := .int 1) (ev_var rfl) ev_c (rv_ixT (st_of (e2 _ _ a2)) (atI_nat (j := 1) rfl))) (ev_var rfl) rv_leN)
    · have hpH : ∃ o, H p = some (.lst o) := by obtain ⟨a, b, h, _⟩ := hp; exact ⟨_, h⟩
      obtain ⟨op, hop⟩ := hpH
      have hp2 : PotAt H2 p := hp.ex (e1.trans e2)
      have hop2 : H2 p = some (.lst op) := e2 _ _ (e1 _ _ hop)
      have nsmH : H sm = none := fresh_back e1 nsm
      have nsmp : sm ≠ p := fun e => by rw [e, hop] at nsmH; cases nsmH
      have pLp2 : Pcs H H2 Lp := fun x hx => (pLp x hx).ex e2
      have lsm : 0 < ((Lp.filter fun e => okPc e.2).map (·.1)).length := by
        rw [List.length_map]
        have z : ((Lp.filter fun e => okPc e.2).map (·.2)) = (tabA ++ tabB ++ tabC).filter okPc := by
          rw [← eLp, List.filter_map]; rfl
        have y := congrArg List.length z
        rw [List.length_map] at y
        rw [y]
        have : ∃ x, x ∈ (tabA ++ tabB ++ tabC).filter okPc := ⟨⟨"off", 1, [], 1⟩, List.mem_filter.mpr ⟨List.mem_cons_self, by decide +kernel⟩⟩
        exact List.length_pos_iff_exists_mem.mpr this
      have lsm2 : ((Lp.filter fun e => okPc e.2).map (·.1)).length < 1000000 := by
        rw [List.length_map]
        have a := List.length_filter_le (fun e : V × Piece => okPc e.2) Lp
        have b := congrArg List.length eLp
        rw [List.length_map] at b
        have c : (tabA ++ tabB ++ tabC).length = 11 := rfl
        omega
      refine ⟨Nat.zero_le _, fun wl nwl => ⟨Nat.zero_le _, fun tl ntl => ⟨(by show 3 ≤ sizeLine; decide), fun tr ntr => ⟨tr, [.int 0, .ref wl, .ref tl], rfl, st_of upd_same, rfl, .int 0, [.ref wl, .ref tl], rfl, .ref wl, [.ref tl], rfl, .ref tl, [], rfl, rfl, ?_⟩⟩⟩⟩
      have nwl2 : H2 wl = none := nwl
      have ntwl : tl ≠ wl := fun e => by rw [e, upd_same] at ntl; cases ntl
      have ntl2 : H2 tl = none := fresh_back (Ex.new nwl) ntl
      have eN : Ex H2 (upd (upd (upd H2 wl (.lst [])) tl (.lst [])) tr (.tup [.int 0, .ref wl, .ref tl])) := ((Ex.new nwl).trans (Ex.new ntl)).trans (Ex.new ntr)
      have hwl3 : (upd (upd (upd H2 wl (.lst [])) tl (.lst [])) tr (.tup [.int 0, .ref wl, .ref tl])) wl = some (.lst []) := Ex.new ntr _ _ (by rw [upd_ne ntwl.symm, upd_same])
      have htl3 : (upd (upd (upd H2 wl (.lst [])) tl (.lst [])) tr (.tup [.int 0, .ref wl, .ref tl])) tl = some (.lst []) := Ex.new ntr _ _ upd_same
      generalize upd (upd (upd H2 wl (.lst [])) tl (.lst [])) tr (.tup [.int 0, .ref wl, .ref tl]) = H3 at *
      have ntlp : tl ≠ p := fun e => by rw [e, hop2] at ntl2; cases ntl2
      have ntls : tl ≠ sm := fun e => by rw [e, hsm] at ntl2; cases ntl2
      refine q_forR1 (n := 6) (ea_cons ev_c ea_nil) ⟨by decide, by decide⟩ (fun i σ' H' => ∃ n wl y8 y9 y10 y11 y12, ∃ L : List (Addr × (Nat × Piece)), σ' = [some (.ref p), some (.ref nm), some (nv 14), some (.ref sm), none, some (nv n), some (.ref wl), some (.ref tl), y8, y9, y10, y11, y12, none] ∧
          But p H2 H' ∧ PotAt H' p ∧ H2 wl = none ∧ H' wl = some (.lst (nvs (wordsOf (L.map (·.2))))) ∧ wl ≠ tl ∧ H' tl = some (.lst (refs L)) ∧ (∀ e, e ∈ L → H' e.1 = some (.tup (toldT e.2))) ∧ Bld (L.map (·.2)) n ∧ (i = 0 ∨ 0 < n) ∧ L.length ≤ i ∧ (wordsOf (L.map (·.2))).length ≤ 6 * i)
        (fun H4 e4 => ⟨0, wl, none, none, none, none, none, [], rfl, Ex.but (eN.trans e4), hp2.ex (eN.trans e4), nwl2, e4 _ _ hwl3, ntwl.symm, e4 _ _ htl3, (fun _ h => nomatch h), Bld.nil, .inl rfl, Nat.le_refl _, Nat.le_refl _⟩) ?_ ?_
      · rintro i σ' H' hi ⟨n, wl, y8, y9, y10, y11, y12, L, rfl, bt, hp', nwl', hwl', nwt, htl', aL, bl, hin, lL, lW⟩
        have hsm' := bt _ _ nsmp hsm
        refine ⟨.ref p, rfl, .ref sm, rfl, p, sm, _, rfl, hp', hsm', nsmp, lsm, lsm2, fun H4 x hx bt4 hp4 => ?_⟩
        obtain ⟨a', b', hpp, _⟩ := hp'
        obtain ⟨e, he, rfl⟩ := List.mem_map.mp hx
        obtain ⟨heL, hok⟩ := List.mem_filter.mp he
        have htab : e.2 ∈ tabA ++ tabB ++ tabC := by rw [← eLp]; exact List.mem_map.mpr ⟨e, heL, rfl⟩
        have bt' := bt.trans bt4
        have pL4 := Pcs.but pLp2 bt' hop2 (fun _ h => nomatch h) (by rw [hop]; exact fun h => nomatch h)
        obtain ⟨t, l, a1, a2, a3, a4⟩ := pL4 e heL
        obtain ⟨tw1, tw2, tw3, tw4⟩ := tab_words _ htab
        have nlp : l ≠ p := fun z => by rw [z, hop] at a4; cases a4
        have nwp : wl ≠ p := fun z => by rw [z, hop2] at nwl'; cases nwl'
        have hwl4 := bt4 _ _ nwp hwl'
        have htl4 := bt4 _ _ ntlp htl'
        have aL4 : ∀ e, e ∈ L → H4 e.1 = some (.tup (toldT e.2)) := fun z hz => bt4 _ _ (ne_of (aL z hz) hpp (fun h => nomatch h)) (aL z hz)
        rw [a1]
        refine ⟨t, _, rfl, st_of a2, rfl, _, _, rfl, _, _, rfl, _, _, rfl, _, _, rfl, rfl, ?_⟩
        refine s_when (b := decide (n + e.2.wide ≤ 14)) (et_test (ev_op (y := nv 14) (ev_op (x := nv n) (y := nv e.2.wide) (ev_var rfl) (ev_var rfl) rv_addN) (ev_var rfl) rv_leN)) (fun hb H5 e5 => ?_) (fun hb H5 e5 => ?_)
        · have hb := of_decide_eq_true hb
          have wl5 := e5 _ _ hwl4
          have eW : wordsOf ((L.map (·.2)) ++ [(n, e.2)]) = wordsOf (L.map (·.2)) ++ e.2.words.map fun g => g * 2 ^ n := by
            unfold wordsOf; rw [List.flatMap_append]; simp
          refine q_asgL (el_catV (xs := nvs (wordsOf (L.map (·.2)))) (ys := nvs (e.2.words.map fun g => g * 2 ^ n)) (ev_var rfl) wl5 ?_ (by rw [nvs_len, nvs_len, List.length_map]; omega)) fun wl' H6 nwl6 e6 hwl6 => ?_
          · have z := lc_l (K := K) (σ := [some (.ref p), some (.ref nm), some (nv 14), some (.ref sm), none, some (nv n), some (.ref wl), some (.ref tl), some (nv i), some (.str e.2.name), some (nv e.2.wide), some (.ref l), some (nv e.2.ex), none]) (H := H5) (t := tYes) (te := tOp (rI CPow fun i j => .int (i * 2 ^ j.toNat)) (tVar 13) (tVar 5)) (tl := tVar 11) (j := 13) (vs := [13]) (l := e.2.words) (enc := nv) (fun _ => true) (fun g => nv (g * 2 ^ n)) (ev_var rfl) (sq_of (e5 _ _ a3)) (by omega) (fun _ => rfl) (fun _ _ _ _ => et_yes)
              (fun g hg H6 _ _ => ev_op (ev_var rfl) (ev_var rfl) (rv_shl (Nat.lt_of_lt_of_le (tw2 g hg) (Nat.pow_le_pow_right (by decide) (by omega))) (by omega)))
            rw [List.filter_eq_self.mpr fun _ _ => rfl] at z
            have e' : e.2.words.map (fun g => nv (g * 2 ^ n)) = nvs (e.2.words.map fun g => g * 2 ^ n) := by unfold nvs; rw [List.map_map]; rfl
            rw [e'] at z
            exact z
          · have htl6 := e6 _ _ (e5 _ _ htl4)
            have nwt6 : wl' ≠ tl := fun z => by rw [z, e5 _ _ htl4] at nwl6; cases nwl6
            have nwl62 : H2 wl' = none := by
              cases z : H2 wl' with
              | none => rfl
              | some o =>
                by_cases hwp : wl' = p
                · obtain ⟨a, b, h, _⟩ := hp4
                  have h := e5 _ _ h
                  rw [← hwp, nwl6] at h; cases h
                · have y := e5 _ _ (bt' _ _ hwp z)
                  rw [nwl6] at y; cases y
            refine q_appU (l := tl) htl6 (ev_var rfl) (eu_tup (vs := toldT (n, e.2)) (ea_cons (ev_var rfl) (ea_cons (ev_var rfl) (ea_cons (ev_var rfl) (ea_cons (ev_var rfl) ea_nil)))) (by show 4 ≤ 100000; decide)) (by rw [List.length_map]; omega) fun c H7 nc e7 hc => ?_
            refine s_asg (ev_op (x := nv n) (y := nv e.2.wide) (ev_var rfl) (ev_var rfl) rv_addN) fun H8 e8 => ?_
            have nct : c ≠ tl := fun z => by rw [z, htl6] at nc; cases nc
            have e57 : Ex H4 H7 := (e5.trans e6).trans e7
            have bT : ∀ b o, b ≠ tl → H7 b = some o → H8 b = some o := fun b o hb h => e8 _ _ (by rw [upd_ne hb]; exact h)
            have eL' : (L ++ [(c, (n, e.2))]).map (·.2) = L.map (·.2) ++ [(n, e.2)] := by rw [List.map_append]; rfl
            refine ⟨n + e.2.wide, wl', some (nv i), some (.str e.2.name), some (nv e.2.wide), some (.ref l), some (nv e.2.ex), L ++ [(c, (n, e.2))], rfl, fun b o hb h => bT _ _ (ne_of_none h ntl2) (e57 _ _ (bt' _ _ hb h)), ?_, nwl62, ?_, nwt6, ?_, fun x hx => ?_, ?_, .inr (by omega), ?_, ?_⟩
            · obtain ⟨a, b, h, k⟩ := hp4
              exact ⟨a, b, bT _ _ ntlp.symm (e57 _ _ h), k⟩
            · rw [eL', eW]
              have z := bT _ _ nwt6 (e7 _ _ hwl6)
              rw [z]; unfold nvs; rw [List.map_append]
            · rw [e8 _ _ upd_same]
              unfold refs; rw [List.map_append]; rfl
            · rcases List.mem_append.mp hx with hx | hx
              · exact bT _ _ (ne_of (aL4 x hx) htl4 (fun h => nomatch h)) (e57 _ _ (aL4 x hx))
              · obtain rfl := List.mem_singleton.mp hx
                exact bT _ _ nct hc
            · rw [eL']
              exact bl.snoc htab hok hb
            · rw [List.length_append]; show L.length + 1 ≤ i + 1; omega
            · rw [eL', eW, List.length_append, List.length_map]; omega
        · refine ⟨n, wl, some (nv i), some (.str e.2.name), some (nv e.2.wide), some (.ref l), some (nv e.2.ex), L, rfl, bt'.ex e5, hp4.ex e5, nwl', e5 _ _ hwl4, nwt, e5 _ _ htl4, fun x hx => e5 _ _ (aL4 x hx), bl, ?_, by omega, by omega⟩
          rcases hin with h0 | h0
          · exfalso
            have hb := of_decide_eq_false hb
            cases bl' : L with
            | nil =>
              rw [bl'] at bl
              have bl : Bld [] n := bl
              generalize hC : ([] : List (Nat × Piece)) = C at bl
              cases bl with
              | nil => omega
              | snoc _ _ _ _ => cases (List.append_eq_nil_iff.mp hC.symm).2
            | cons y ys => rw [bl'] at lL; simp at lL; omega
          · exact .inr h0
      · rintro σ' H' ⟨n, wl, y8, y9, y10, y11, y12, L, rfl, bt, hp', nwl', hwl', nwt, htl', aL, bl, hin, lL, lW⟩
        have nwp : wl ≠ p := fun z => by rw [z, hop2] at nwl'; cases nwl'
        refine s_retU (eu_tup (vs := [nv n, .ref wl, .ref tl]) (ea_cons (ev_var rfl) (ea_cons (ev_var rfl) (ea_cons (ev_var rfl) ea_nil))) (by show 3 ≤ 100000; decide)) fun r H4 nr e4 hr4 => ?_
        refine q H4 r wl tl n L (fun b o hb h => e4 _ _ (bt _ _ hb (e2 _ _ (e1 _ _ h)))) (hp'.ex e4) hr4 (e4 _ _ hwl') (e4 _ _ htl') (fun x hx => e4 _ _ (aL x hx)) bl (hin.resolve_left (fun h => nomatch h)) lL nwp ntlp
end
end K7
namespace K7
open PySem PySem.Spec PyProof.Rows L2 Evl K71
theorem t_yes {σ : L2.St} {H : Hp} {te : TE} {Q : VK} {N : Hp → Prop} (h : te σ H Q) : tYes σ H fun b H3 => if b = true then te σ H3 Q else N H3 := by
  show if true = true then te σ H Q else N H
  exact iteT h
theorem cut_nv {seq : List Nat} {f m : Nat} (h : f + m ≤ seq.length) : cutV (nvs seq) (some (f : Int)) (some ((f + m : Nat) : Int)) = nvs ((seq.drop f).take m) := by
  unfold cutV
  rw [HT.sIx_nat, HT.sIx_nat, nvs_len, Nat.min_eq_left h, Nat.min_eq_left (show f ≤ seq.length by omega)]
  unfold nvs
  rw [← List.map_drop, ← List.map_take]
  have e : f + m - f = m := by omega
  rw [e]
theorem le_back {ms : List Int} {ns : List Nat} (h : ms = natI ns) (k : ms.Pairwise (· ≤ ·)) : ns.Pairwise (· ≤ ·) := by
  rw [h] at k
  unfold natI at k
  exact (List.pairwise_map.mp k).imp fun h => by omega
theorem lot_el {K : PySem.W.Frag} {σ : L2.St} {H : Hp} {nm x : V} {sq : Addr} {seq : List Nat} {f m : Nat} (h8 : σ[8]? = some (some nm)) (h6 : σ[6]? = some (some (.ref sq))) (h9 : σ[9]? = some (some (nv f))) (h10 : σ[10]? = some (some (nv m))) (h11 : σ[11]? = some (some x)) (hsq : SqL K H sq (nvs seq)) (hle : f + m ≤ seq.length) {Q : VK}
    (q : ∀ t s S H2, H t = none → H s = none → Ex H H2 → H2 t = some (.tup [nm, .ref s, x]) → H2 s = some (.lst (nvs S)) → S.Perm ((seq.drop f).take m) → S.Pairwise (· ≤ ·) → Q (.ref t) H2) :
    tTup (tCons (tVar 8) (tCons (tCB (rSortedI K) (tCons (tSl (rSlL K) (tVar 6) (tPart (tVar 9)) (tPart (tOp (rI0 fun i j => .int (i + j)) (tVar 9) (tVar 10)))) tNil)) (tCons (tVar 11) tNil))) σ H Q := by
  refine ⟨nm, h8, ?_⟩
  refine (el_sl (K := K) (lo := some (f : Int)) (hi := some ((f + m : Nat) : Int)) (ev_var h6) (eo_some (ev_var h9)) (eo_some (ev_op (ev_var h9) (ev_var h10) rv_addN)) hsq) H (Ex.refl H) _ fun c H1 nc e1 hc => ?_
  rw [cut_nv hle] at hc
  refine ⟨c, natI ((seq.drop f).take m), rfl, sq_of (by rw [natI_v]; exact hc), fun ns' s hpm hle ns => ?_⟩
  obtain ⟨c1, c2⟩ := natI_back hpm
  refine ⟨x, h11, (by show 3 ≤ sizeLine; decide), fun t nt => ?_⟩
  have e2 := Ex.new (o := HO.lst (ns'.map V.int)) ns
  have e3 := Ex.new (o := HO.tup [nm, .ref s, x]) nt
  refine q t s (ns'.map Int.toNat) _ (fresh_back (e1.trans e2) nt) (fresh_back e1 ns) (e1.trans (e2.trans e3)) upd_same (by rw [e3 _ _ upd_same, ← natI_v, ← c1]) c2 (le_back c1 hle)
theorem Bld.le {C : List (Nat × Piece)} {n : Nat} (h : Bld C n) : n ≤ 14 ∧ ∀ c, c ∈ C → c.1 + c.2.wide ≤ n := by
  induction h with
  | nil => exact ⟨by decide, fun _ h => nomatch h⟩
  | snoc b ht ho hn ih =>
    refine ⟨hn, fun c hc => ?_⟩
    rcases List.mem_append.mp hc with hc | hc
    · have := ih.2 c hc; omega
    · obtain rfl := List.mem_singleton.mp hc; exact Nat.le_refl _
/-- the places of a piece, led -/
def Lot (seq : List Nat) (c : Nat × Piece) (S : List Nat) : Prop := S.Perm ((seq.drop c.1).take c.2.wide) ∧ S.Pairwise (· ≤ ·)
abbrev LotE := Addr × (Nat × Piece) × List Nat
def LotAt (seq : List Nat) (H : Hp) (e : Addr × LotE) : Prop := (∃ v1 v3, H e.1 = some (.tup [v1, .ref e.2.1, v3])) ∧ H e.2.1 = some (.lst (nvs e.2.2.2)) ∧ Lot seq e.2.2.1 e.2.2.2
section
variable {P : Program} {w : World} {K : PySem.W.Frag} {mg : Str → Option Value} {base : Heap}
def spRoom : Sp := fun vs H Q _ => ∃ (p nm : Addr), vs = [.ref p, .ref nm, nv 14] ∧ PotAt H p ∧ H nm = some (.lst (names10.map V.str)) ∧
  ∀ H' r wo lo sq n (seq : List Nat) (C : List (Nat × Piece)) (L : List (Addr × LotE)), But p H H' → PotAt H' p → H' r = some (.tup [nv n, .ref wo, .ref lo, .ref sq]) → H' wo = some (.lst (nvs ((wordsOf C).map (ledW seq)))) → H' lo = some (.lst (refs L)) →
    (∀ e, e ∈ L → LotAt seq H' e) → L.map (fun e => e.2.2.1) = C → seq.Perm (List.range n) → Bld C n → 0 < n → C.length ≤ 6 → Q (.ref r) H'
theorem ok_room (D : Df K mg "_law_room" s_l_room) (T : Free mg) (OB : Ok P w K mg base 3 "_law_beside" ["_law_pot_here", "_law_names", "_law_most"] spBeside) (OS : Ok P w K mg base 2 "_law_sequence" ["_law_pot_here", "_law_places"] spSeq)
    (OL : Ok P w K mg base 2 "_law_led" ["_law_word_here", "_law_sequence_here"] (spLed K)) : Ok P w K mg base 4 "_law_room" ["_law_pot_here", "_law_names", "_law_most"] spRoom := by
  refine ok_mk D (fun f fd F => F.binds fun _ _ _ _ _ _ us hl => match us, hl with | [_, _, _], _ => rfl) fun f fd F => F.ok sc_l_room (fun vs H Q E h => ?_) (fun cdv A outer s H vs Q E hr h => ?_)
  · obtain ⟨p, nm, rfl, _⟩ := h; rfl
  · obtain ⟨p, nm, rfl, hp, hnm, q⟩ := h
    obtain ⟨f1, fd1, g1, k1, b1, G1⟩ := OB.ex
    obtain ⟨f2, fd2, g2, k2, b2, G2⟩ := OS.ex
    obtain ⟨f3, fd3, g3, k3, b3, G3⟩ := OL.ex
    refine ⟨_, pss_cons (ps_asg (pe_call G1 hr (by rfl) g1 k1 b1 .nil pass0 (pa_cons (pv 0) (pa_cons (pv 1) (pa_cons (pv 2) pa_nil)))) (pg_tup rfl (pgs_cons (pg_name (i := 3) sc_l_room.nd rfl (.inl rfl)) (pgs_cons (pg_name (i := 4) sc_l_room.nd rfl (.inl rfl)) (pgs_cons (pg_name (i := 5) sc_l_room.nd rfl (.inl rfl)) pgs_nil)))))
      (pss_cons (ps_set (i := 6) sc_l_room.nd rfl (.inr rfl) (pe_call G2 (hr.mono (by decide)) (by rfl) g2 k2 b2 .nil pass0 (pa_cons (pv 0) (pa_cons (pv 3) pa_nil))))
      (pss_cons (ps_setLc (i := 7) (own := [("_law_name", 8), ("_law_first", 9), ("_law_wide", 10), ("_law_exchanges", 11)]) (tt := tYes) (by rfl) sc_l_room.nd rfl rfl (sw_true rfl rfl rfl (by decide +kernel)) (pi_list (pv 5))
        (blkOk_by (N := ["_law_pot_here", "_law_names", "_law_most", "_law_places", "_law_words", "_law_told", "_law_sequence_here", "_law_lots", "_law_name", "_law_first", "_law_wide", "_law_exchanges", "_law_word_here"]) (sc := defScope s_l_room) (by decide +kernel))
        (fun _ _ _ _ _ => (show PG _ _ (gTup K 4 (gCons (gName 8) (gCons (gName 9) (gCons (gName 10) (gCons (gName 11) gNil))))) from pg_tup rfl (pgs_cons (pg_name (i := 8) sc_l_room.nd rfl (.inl rfl)) (pgs_cons (pg_name (i := 9) sc_l_room.nd rfl (.inl rfl)) (pgs_cons (pg_name (i := 10) sc_l_room.nd rfl (.inl rfl)) (pgs_cons (pg_name (i := 11) sc_l_room.nd rfl (.inl rfl)) pgs_nil))))))
        (fun _ _ _ _ _ => pts_nil)
        (fun _ _ _ _ _ => pe_tup (pa_cons (pv 8) (pa_cons (pe_callB (show CallR _ _ (rSortedI K) from cr_sortedI) (by rfl) T.sorted (by decide +kernel) (pa_cons (pe_slice (show SlR _ (rSlL K) from sl_list) (pv 6) (po_some (pv 9)) (po_some (pe_op op_add (pv 9) (pv 10)))) pa_nil)) (pa_cons (pv 11) pa_nil)))))
      (pss_one (ps_ret (pe_tup (pa_cons (pv 3) (pa_cons (pe_lc (own := [("_law_word_here", 12)]) (g := gName 12) (tt := tYes) rfl sc_l_room.nd (pi_list (pv 4))
        (blkOk_by (N := ["_law_pot_here", "_law_names", "_law_most", "_law_places", "_law_words", "_law_told", "_law_sequence_here", "_law_lots", "_law_name", "_law_first", "_law_wide", "_law_exchanges", "_law_word_here"]) (sc := defScope s_l_room) (by decide +kernel))
        (fun _ _ _ _ _ => pg_name (i := 12) sc_l_room.nd rfl (.inl rfl)) (fun _ _ _ _ _ => pts_nil) (fun _ _ _ _ _ => pe_call G3 (hr.mono (by decide)) (by rfl) g3 k3 b3 .nil pass0 (pa_cons (pv 12) (pa_cons (pv 6) pa_nil)))) (pa_cons (pv 7) (pa_cons (pv 6) pa_nil))))))))), ?_⟩
    refine ⟨.ref p, rfl, .ref nm, rfl, nv 14, rfl, p, nm, rfl, hp, hnm, fun H1 r wl tl n L bt1 hp1 hr1 hwl htl aL bl hn lL nwp ntp => ?_⟩
    refine ⟨r, _, rfl, st_of hr1, rfl, _, _, rfl, _, _, rfl, _, _, rfl, rfl, ?_⟩
    obtain ⟨bn, bc⟩ := bl.le
    refine ⟨.ref p, rfl, nv n, rfl, p, n, rfl, hp1, by omega, fun H2 sq seq bt2 hp2 nsq hsq hperm => ?_⟩
    obtain ⟨a', b', hpp, _⟩ := id hp1
    have hwl2 := bt2 _ _ nwp hwl
    have htl2 := bt2 _ _ ntp htl
    have aL2 : ∀ e, e ∈ L → H2 e.1 = some (.tup (toldT e.2)) := fun z hz => bt2 _ _ (ne_of (aL z hz) hpp (fun h => nomatch h)) (aL z hz)
    have bt := bt1.trans bt2
    have lseq : seq.length = n := by rw [hperm.length_eq, List.length_range]
    show tSeq _ _ _ _ _
    refine ⟨.ref tl, rfl, tl, rfl, ⟨_, sq_of htl2⟩, fun lo nlo => ?_⟩
    refine lc_list (K := K) (xs := refs L) (fun i H' => ∃ M : List (Addr × LotE), M.map (fun e => e.2.2.1) = (L.take i).map (·.2) ∧ M.length ≤ i ∧ Ex H2 H' ∧ H' lo = some (.lst (refs M)) ∧ ∀ e, e ∈ M → e.1 ≠ lo ∧ e.2.1 ≠ lo ∧ LotAt seq H' e)
      ⟨[], rfl, Nat.le_refl _, Ex.new nlo, upd_same, fun _ h => nomatch h⟩ (fun i H' _ ⟨M, _, _, e, _⟩ => sq_of (e _ _ htl2)) (fun i x H' hx ⟨M, eM, lM, e, hlo, aM⟩ => ?_) (fun H' ⟨M, eM, lM, e, hlo, aM⟩ => ?_)
    · rw [List.getElem?_map] at hx
      cases ex : L[i]? with
      | none => rw [ex] at hx; cases hx
      | some y =>
        rw [ex] at hx
        obtain rfl : V.ref y.1 = x := Option.some.inj hx
        have hyL : y ∈ L := List.mem_of_getElem? ex
        have hil : i < L.length := (List.getElem?_eq_some_iff.mp ex).1
        have hc := bc y.2 (List.mem_map.mpr ⟨y, hyL, rfl⟩)
        refine ⟨y.1, toldT y.2, rfl, st_of (e _ _ (aL2 y hyL)), rfl, _, _, rfl, _, _, rfl, _, _, rfl, _, _, rfl, rfl, rfl, ?_⟩
        refine t_yes (lot_el (K := K) (nm := .str y.2.2.name) (x := nv y.2.2.ex) (f := y.2.1) (m := y.2.2.wide) (seq := seq) (sq := sq) rfl rfl rfl rfl rfl (sq_of (e _ _ hsq)) (by rw [lseq]; exact hc) fun t s S H5 nt ns E3 ht3 hs3 hS1 hS2 => ?_)
        have nslo : s ≠ lo := fun z => by rw [z, hlo] at ns; cases ns
        have ntlo : t ≠ lo := fun z => by rw [z, hlo] at nt; cases nt
        refine ⟨refs M, E3 _ _ hlo, by rw [List.length_map]; exact sz_lt (by omega), M ++ [(t, s, y.2, S)], ?_, by rw [List.length_append]; show M.length + 1 ≤ i + 1; omega, Ex.mut (e.trans E3) nlo, ?_, fun z hz => ?_⟩
        · rw [List.map_append, eM, take_snoc ex, List.map_append]; rfl
        · rw [upd_same]; unfold refs; rw [List.map_append]; rfl
        · rcases List.mem_append.mp hz with hz | hz
          · obtain ⟨z1, z2, ⟨v1, v3, z3⟩, z4, z5⟩ := aM z hz
            exact ⟨z1, z2, ⟨v1, v3, by rw [upd_ne z1]; exact E3 _ _ z3⟩, by rw [upd_ne z2]; exact E3 _ _ z4, z5⟩
          · obtain rfl := List.mem_singleton.mp hz
            exact ⟨ntlo, nslo, ⟨_, _, by rw [upd_ne ntlo]; exact ht3⟩, by rw [upd_ne nslo]; exact hs3, hS1, hS2⟩
    · have lL2 : (refs L).length = L.length := List.length_map ..
      rw [lL2, List.take_of_length_le (Nat.le_refl _)] at eM
      refine ⟨nv n, rfl, ?_⟩
      have hwl3 := e _ _ hwl2
      have hsq3 := e _ _ hsq
      have lW : (wordsOf (L.map (·.2))).length ≤ 40000 := by
        have aux : ∀ C : List (Nat × Piece), (∀ c, c ∈ C → c.2.words.length ≤ 6) → (wordsOf C).length ≤ 6 * C.length := by
          intro C
          induction C with
          | nil => intro _; exact Nat.le_refl _
          | cons c C ih =>
            intro h
            have h1 := h c List.mem_cons_self
            have h2 := ih fun d hd => h d (List.mem_cons_of_mem _ hd)
            show (c.2.words.map _ ++ wordsOf C).length ≤ _
            rw [List.length_append, List.length_map, List.length_cons]
            omega
        have hw : ∀ c, c ∈ L.map (·.2) → c.2.words.length ≤ 6 := by
          have aux2 : ∀ {C : List (Nat × Piece)} {n : Nat}, Bld C n → ∀ c, c ∈ C → c.2.words.length ≤ 6 := by
            intro C n b
            induction b with
            | nil => intro c h; cases h
            | snoc b ht ho hn ih =>
              intro c hc
              rcases List.mem_append.mp hc with hc | hc
              · exact ih c hc
              · obtain rfl := List.mem_singleton.mp hc; exact (tab_words _ ht).1
          exact aux2 bl
        have := aux _ hw
        rw [List.length_map] at this
        omega
      have hled : ∀ Wd : List Nat, H' wl = some (.lst (nvs Wd)) → Wd.length ≤ 40000 → EvL (tLc (iList K (tVar 4)) (gName 12) tYes (tCall (spLed K) [] E0 (tCons (tVar 12) (tCons (tVar 6) tNil))) [12]) [some (.ref p), some (.ref nm), some (nv 14), some (nv n), some (.ref wl), some (.ref tl), some (.ref sq), some (.ref lo), none, none, none, none, none] H' (nvs (Wd.map (ledW seq))) := fun Wd hWd lWd => by
        have z := lc_l (K := K) (σ := [some (.ref p), some (.ref nm), some (nv 14), some (nv n), some (.ref wl), some (.ref tl), some (.ref sq), some (.ref lo), none, none, none, none, none]) (H := H') (t := tYes) (te := tCall (spLed K) [] E0 (tCons (tVar 12) (tCons (tVar 6) tNil))) (tl := tVar 4) (j := 12) (vs := [12]) (l := Wd) (enc := nv) (fun _ => true) (fun x => nv (ledW seq x)) (ev_var rfl) (sq_of hWd) lWd (fun _ => rfl) (fun _ _ _ _ => et_yes)
          (fun x _ H4 e4 _ => ev_call (ea_cons (ev_var rfl) (ea_cons (ev_var rfl) ea_nil)) (fun H5 e5 Q q _ => ⟨x, sq, seq, rfl, sq_of (e5 _ _ (e4 _ _ hsq3)), by omega, fun i hi => by
            have := List.mem_range.mp (hperm.mem_iff.mp hi); omega, q⟩))
        rw [List.filter_eq_self.mpr fun _ _ => rfl] at z
        have e' : Wd.map (fun x => nv (ledW seq x)) = nvs (Wd.map (ledW seq)) := by unfold nvs; rw [List.map_map]; rfl
        rw [e'] at z
        exact z
      refine hled _ hwl3 lW H' (Ex.refl H') _ fun wo H4 nwo e4 hwo => ⟨.ref lo, rfl, .ref sq, rfl, (by show 4 ≤ sizeLine; decide), fun r' nr' => ?_⟩
      have e5 := Ex.new (o := HO.tup [nv n, .ref wo, .ref lo, .ref sq]) nr'
      refine q _ r' wo lo sq n seq (L.map (·.2)) M (bt.ex (e.trans (e4.trans e5))) (hp2.ex (e.trans (e4.trans e5))) upd_same (e5 _ _ hwo) ((e4.trans e5) _ _ hlo) (fun z hz => ?_) eM hperm bl hn (by rw [List.length_map]; exact lL)
      obtain ⟨z1, z2, ⟨v1, v3, z3⟩, z4, z5⟩ := aM z hz
      exact ⟨⟨v1, v3, (e4.trans e5) _ _ z3⟩, (e4.trans e5) _ _ z4, z5⟩
end
end K7
namespace K7
open PySem PySem.Spec PyProof.Rows L2 Evl K71
def rowD (S : List Nat) : PyData := .list ((natI S).map PyData.int)
def rowsD (M : List (List Nat)) : PyData := .list (M.map rowD)
theorem alike_row (S T : List Nat) : PySem.W.alike (rowD S) (rowD T) = true := by
  unfold rowD; simp [PySem.W.alike]; exact PySem.W.alike_ints _ _
theorem alike_rows : ∀ M N : List (List Nat), PySem.W.alikeAll (M.map rowD) (N.map rowD) = true
  | [], _ => by simp [PySem.W.alikeAll]
  | _ :: _, [] => by simp [PySem.W.alikeAll]
  | S :: M, T :: N => by
    show PySem.W.alikeAll (rowD S :: M.map rowD) (rowD T :: N.map rowD) = true
    rw [PySem.W.alikeAll, alike_row, alike_rows M N]; rfl
theorem eqv_row (S : List Nat) : PyData.eqv (rowD S) (rowD S) = true := PySem.W.eqv_refl_alike _ (alike_row S S)
theorem eqv_rows (M : List (List Nat)) : PyData.eqv (rowsD M) (rowsD M) = true := PySem.W.eqv_refl_alike _ (by
  unfold rowsD; simp [PySem.W.alike]; exact alike_rows M M)
theorem lay_ints : ∀ ns : List Int, PyData.canLayAll0 (ns.map PyData.int) = true
  | [] => by simp [PyData.canLayAll0]
  | n :: ns => by
    show PyData.canLayAll0 (PyData.int n :: ns.map PyData.int) = true
    rw [PyData.canLayAll0, lay_ints ns]
    simp [PyData.canLay0]
theorem lay_row (S : List Nat) : (rowD S).canLay0 = true := by
  unfold rowD; rw [PyData.canLay0]; exact lay_ints _
theorem depth_row (S : List Nat) : (rowD S).depth = 1 := by
  unfold rowD; rw [PyData.depth, PySem.W.depth_ints]
theorem lay_rows : ∀ M : List (List Nat), PyData.canLayAll0 (M.map rowD) = true
  | [] => by simp [PyData.canLayAll0]
  | S :: M => by
    show PyData.canLayAll0 (rowD S :: M.map rowD) = true
    rw [PyData.canLayAll0, lay_rows M, lay_row]; rfl
theorem depth_rows : ∀ M : List (List Nat), PyData.depthAll (M.map rowD) ≤ 1
  | [] => by simp [PyData.depthAll]
  | S :: M => by
    show PyData.depthAll (rowD S :: M.map rowD) ≤ 1
    rw [PyData.depthAll, depth_row]
    have := depth_rows M
    omega
theorem shaped_row (S : List Nat) : SeqAt.shaped (rowD S) = true := by
  unfold SeqAt.shaped
  rw [lay_row, depth_row]; rfl
theorem shaped_rows (M : List (List Nat)) : SeqAt.shaped (rowsD M) = true := by
  unfold SeqAt.shaped rowsD
  rw [PyData.canLay0, PyData.depth, lay_rows]
  have := depth_rows M
  rw [decide_eq_true (by omega)]; rfl
theorem dp_rows {K : PySem.W.Frag} {H : Hp} : ∀ {L : List (Addr × List Nat)}, (∀ e, e ∈ L → SqL K H e.1 (nvs e.2)) → DpAll K H (refs L) ((L.map (·.2)).map rowD)
  | [], _ => .nil
  | e :: L, h => .cons (dp_row (h e List.mem_cons_self)) (dp_rows fun x hx => h x (List.mem_cons_of_mem _ hx))
theorem dp_rowsD {K : PySem.W.Frag} {H : Hp} {a : Addr} {L : List (Addr × List Nat)} (ha : SqL K H a (refs L)) (h : ∀ e, e ∈ L → SqL K H e.1 (nvs e.2)) : Dp K H (.ref a) (rowsD (L.map (·.2))) := .lst ha (dp_rows h)
/-- a sorted list of numbers, of lists, is one -/
theorem natI_inj {a b : List Nat} (h : natI a = natI b) : a = b := by
  have := congrArg (List.map Int.toNat) h
  rw [nats_natI, nats_natI] at this; exact this
theorem rows_one {M N : List (List Nat)} (p : M.Perm N) (hM : M.Pairwise rowLe) (hN : N.Pairwise rowLe) : M = N :=
  p.eq_of_pairwise (fun a b _ _ h1 h2 => natI_inj (List.le_antisymm h1 h2)) hM hN
theorem le_one {a b : List Nat} (p : a.Perm b) (ha : a.Pairwise (· ≤ ·)) (hb : b.Pairwise (· ≤ ·)) : a = b :=
  p.eq_of_pairwise (fun x y _ _ h1 h2 => Nat.le_antisymm h1 h2) ha hb
theorem rise_le {a : List Nat} (h : a.Pairwise (· < ·)) : a.Pairwise (· ≤ ·) := h.imp fun h => Nat.le_of_lt h
theorem le_back2 {ms : List Int} {ns : List Nat} (h : ms = natI ns) (k : ms.Pairwise (· ≤ ·)) : ns.Pairwise (· ≤ ·) := by
  rw [h] at k
  unfold natI at k
  exact (List.pairwise_map.mp k).imp fun h => by omega
/-- sorted(a rising list): such a list -/
theorem el_sortedI {K : PySem.W.Frag} {σ : L2.St} {H : Hp} {te : TE} {a : Addr} {ns ms : List Nat} (h : Ev te σ H (.ref a)) (hx : SqL K H a (nvs ns)) (hp : ms.Perm ns) (hs : ms.Pairwise (· ≤ ·)) : EvL (tCB (rSortedI K) (tCons te tNil)) σ H (nvs ms) := fun H1 e Q q =>
  h H1 e _ fun H2 e2 => ⟨a, natI ns, rfl, by rw [natI_v]; exact ex_l (e.trans e2) hx, fun ns' p hperm hle np => by
    obtain ⟨c1, c2⟩ := natI_back hperm
    have e3 : ns'.map Int.toNat = ms := le_one (c2.trans hp.symm) (le_back2 c1 hle) hs
    rw [c1, e3, natI_v]
    exact q p _ (fresh_back e2 np) (e2.trans (Ex.new np)) upd_same⟩
theorem et_bl {σ : L2.St} {H : Hp} {te : TE} {b : Bool} (h : Ev te σ H (.bl b)) : EvT (tTest te) σ H b := et_test h
end K7
namespace K7
open K71
/-! ### a word of places, its bits -/
theorem add_or {x y : Nat} (h : x &&& y = 0) : x + y = x ||| y := by
  have := PyProof.Rows.nat_or_add_and x y
  omega
theorem wordOf_bit : ∀ {ns : List Nat}, ns.Nodup → ∀ i, (wordOf ns).testBit i = decide (i ∈ ns)
  | [], _, i => by simp [wordOf]
  | a :: ns, h, i => by
    obtain ⟨h1, h2⟩ := List.nodup_cons.mp h
    have ih := wordOf_bit h2
    have e : wordOf (a :: ns) = 2 ^ a + wordOf ns := by
      unfold wordOf; rw [List.map_cons, List.sum_cons]
    have z : (2 ^ a) &&& wordOf ns = 0 := and_zero.mpr fun j ⟨p, q⟩ => by
      rw [Nat.testBit_two_pow] at p
      have p := of_decide_eq_true p
      rw [ih, ← p] at q
      exact h1 (of_decide_eq_true q)
    rw [e, add_or z, Nat.testBit_or, Nat.testBit_two_pow, ih]
    by_cases k : a = i
    · subst k; simp
    · rw [decide_eq_false k, Bool.false_or]
      exact decide_eq_decide.mpr ⟨fun m => List.mem_cons_of_mem _ m, fun m => (List.mem_cons.mp m).resolve_left fun e => k e.symm⟩
def Sub (x : Nat) (S : List Nat) : Prop := ∀ i, x.testBit i = true → i ∈ S
theorem sub_test {S : List Nat} (h : S.Nodup) (x : Nat) : decide (x ||| wordOf S = wordOf S) = true ↔ Sub x S := by
  rw [decide_eq_true_eq]
  constructor
  · intro e i hi
    have z : (x ||| wordOf S).testBit i = true := by rw [Nat.testBit_or, hi, Bool.true_or]
    rw [e, wordOf_bit h] at z
    exact of_decide_eq_true z
  · intro k
    apply bit_ext; intro i
    rw [Nat.testBit_or, wordOf_bit h]
    cases e : x.testBit i with
    | false => rw [Bool.false_or]
    | true => rw [decide_eq_true (k i e)]; rfl
/-! ### all words of a room, listed -/
theorem sameS_perm' {A B : List Nat} (p : A.Perm B) : SameS A B := .of (fun x hx => in_mem (p.mem_iff.mp hx)) fun x hx => in_mem (p.mem_iff.mpr hx)
theorem in_snoc {p : List Nat} {w x : Nat} : InS (p ++ [w]) x ↔ InS p x ∨ InS p (x ^^^ w) := by
  rw [sameS_perm' (show (p ++ [w]).Perm (w :: p) from List.perm_append_comm) x, in_cons]
structure Whole (ws F : List Nat) : Prop where
  nd : F.Nodup
  mem : ∀ x, x ∈ F ↔ InS ws x
theorem Whole.step {p F : List Nat} {w : Nat} (h : Whole p F) : Whole (p ++ [w]) (spanStep F w) := by
  unfold spanStep
  by_cases hw : w ∈ F
  · rw [if_pos hw]
    refine ⟨h.nd, fun x => ?_⟩
    rw [h.mem, in_snoc]
    have hw' := (h.mem w).mp hw
    constructor
    · exact .inl
    · rintro (k | k)
      · exact k
      · have z := in_xor k hw'
        rw [x_cancel] at z; exact z
  · rw [if_neg hw]
    have inj : ∀ a b : Nat, a ^^^ w = b ^^^ w → a = b := fun a b e => by
      have := congrArg (· ^^^ w) e
      simp only [x_cancel] at this; exact this
    refine ⟨?_, fun x => ?_⟩
    · rw [List.nodup_append]
      refine ⟨h.nd, List.pairwise_map.mpr (h.nd.imp fun {a b} ne e => ne (inj a b e)), fun a ha b hb e => ?_⟩
      obtain ⟨c, hc, rfl⟩ := List.mem_map.mp hb
      have z := in_xor ((h.mem c).mp hc) ((h.mem a).mp ha)
      have e' : c ^^^ a = w := by rw [e, ← Nat.xor_assoc, x_self, Nat.zero_xor]
      rw [e'] at z
      exact hw ((h.mem w).mpr z)
    · rw [List.mem_append, List.mem_map, in_snoc, h.mem]
      constructor
      · rintro (k | ⟨c, hc, rfl⟩)
        · exact .inl k
        · right; rw [x_cancel]; exact (h.mem c).mp hc
      · rintro (k | k)
        · exact .inl k
        · exact .inr ⟨_, (h.mem _).mpr k, x_cancel _ _⟩
theorem whole_of (ws : List Nat) : Whole ws (ws.foldl spanStep [0]) := by
  have aux : ∀ (r p F : List Nat), Whole p F → Whole (p ++ r) (r.foldl spanStep F) := by
    intro r
    induction r with
    | nil => intro p F h; rw [List.append_nil]; exact h
    | cons w r ih =>
      intro p F h
      have z := ih (p ++ [w]) _ (h.step (w := w))
      rw [List.append_assoc] at z; exact z
  exact aux ws [] [0] ⟨by simp, fun x => by rw [in_nil, List.mem_singleton]⟩
theorem Whole.perm {ws F G : List Nat} (h : Whole ws F) (p : G.Perm F) : Whole ws G := ⟨p.nodup_iff.mpr h.nd, fun x => (p.mem_iff).trans (h.mem x)⟩
theorem Whole.same {ws B F : List Nat} (h : Whole ws F) (s : SameS B ws) : Whole B F := ⟨h.nd, fun x => (h.mem x).trans (s x).symm⟩
/-! ### counting -/
theorem nodup_len : ∀ {l m : List Nat}, l.Nodup → (∀ x, x ∈ l → x ∈ m) → l.length ≤ m.length
  | [], m, _, _ => Nat.zero_le _
  | a :: l, m, h, k => by
    obtain ⟨h1, h2⟩ := List.nodup_cons.mp h
    have ha : a ∈ m := k a List.mem_cons_self
    have ih := nodup_len (m := m.erase a) h2 fun x hx => (List.mem_erase_of_ne (fun e => h1 (by rw [← e]; exact hx))).mpr (k x (List.mem_cons_of_mem _ hx))
    rw [List.length_erase_of_mem ha] at ih
    have : 0 < m.length := List.length_pos_of_mem ha
    rw [List.length_cons]; omega
theorem sub_back : ∀ {l m : List Nat}, l.Nodup → (∀ x, x ∈ l → x ∈ m) → m.length ≤ l.length → ∀ x, x ∈ m → x ∈ l
  | l, m, h, k, n, x, hx => by
    by_cases e : x ∈ l
    · exact e
    · exfalso
      have z := nodup_len (l := x :: l) (m := m) (List.nodup_cons.mpr ⟨e, h⟩) fun y hy => by
        rcases List.mem_cons.mp hy with r | r
        · rw [r]; exact hx
        · exact k y r
      rw [List.length_cons] at z; omega
theorem top_log {b : Nat} (h : b ≠ 0) : IsTop b b.log2 := ⟨Nat.testBit_log2 h, fun j hj => Nat.testBit_lt_two_pow (Nat.lt_of_lt_of_le (Nat.lt_log2_self) (Nat.pow_le_pow_right (by decide) hj))⟩
theorem plain_sub {B C : List Nat} (h : Plain B) (s : C.Sublist B) : Plain C := ⟨fun b hb => h.pos b (s.subset hb), h.pw.sublist s⟩
theorem span_nodup : ∀ {B : List Nat}, Plain B → (spanL B).Nodup
  | [], _ => by simp [spanL]
  | b :: bs, P => by
    have Pb : Plain bs := plain_sub P (List.sublist_cons_self b bs)
    have t := top_log (P.pos b List.mem_cons_self)
    have ih := span_nodup Pb
    have off : ∀ y, InS bs y → y.testBit b.log2 = false := fun y hy => in_ind (P := fun y => y.testBit b.log2 = false) (by simp) hy fun c hc y hy => by
      rw [Nat.testBit_xor, hy, ((List.pairwise_cons.mp P.pw).1 c hc).1 _ t]; rfl
    show (spanL bs ++ (spanL bs).map (· ^^^ b)).Nodup
    rw [List.nodup_append]
    refine ⟨ih, List.pairwise_map.mpr (ih.imp fun {a c} ne e => ne (by
      have := congrArg (· ^^^ b) e
      simp only [x_cancel] at this; exact this)), fun x hx y hy e => ?_⟩
    obtain ⟨c, hc, rfl⟩ := List.mem_map.mp hy
    have z := off x hx
    rw [e, Nat.testBit_xor, off c hc, t.1] at z; cases z
theorem in_mono {A B : List Nat} {x : Nat} (s : ∀ a, a ∈ A → a ∈ B) (h : InS A x) : InS B x := in_sub (fun a ha => in_mem (s a ha)) h
/-- a sum is one of the words whose tops are on in it -/
theorem in_filter {B : List Nat} (P : Plain B) {p : Nat → Bool} {x : Nat} (h : InS B x) (k : ∀ b, b ∈ B → p b = false → x.testBit b.log2 = false) : InS (B.filter p) x := by
  induction B generalizing x with
  | nil => exact h
  | cons b bs ih =>
    have Pb : Plain bs := plain_sub P (List.sublist_cons_self b bs)
    have t := top_log (P.pos b List.mem_cons_self)
    have off : ∀ y, InS bs y → y.testBit b.log2 = false := fun y hy => in_ind (P := fun y => y.testBit b.log2 = false) (by simp) hy fun c hc y hy => by
      rw [Nat.testBit_xor, hy, ((List.pairwise_cons.mp P.pw).1 c hc).1 _ t]; rfl
    have sub : ∀ a, a ∈ bs.filter p → a ∈ (b :: bs).filter p := fun a ha => by
      obtain ⟨h1, h2⟩ := List.mem_filter.mp ha
      exact List.mem_filter.mpr ⟨List.mem_cons_of_mem _ h1, h2⟩
    rcases in_cons.mp h with h | h
    · exact in_mono sub (ih Pb h fun c hc pc => k c (List.mem_cons_of_mem _ hc) pc)
    · have hb : x.testBit b.log2 = true := by
        have z := off _ h
        rw [Nat.testBit_xor, t.1] at z
        cases e : x.testBit b.log2 with
        | true => rfl
        | false => rw [e] at z; cases z
      have pb : p b = true := by
        cases e : p b with
        | true => rfl
        | false => rw [k b List.mem_cons_self e] at hb; cases hb
      have z := ih Pb h fun c hc pc => by
        rw [Nat.testBit_xor, k c (List.mem_cons_of_mem _ hc) pc]
        have t' := top_log (Pb.pos c hc)
        rw [((List.pairwise_cons.mp P.pw).1 c hc).2 _ t']; rfl
      have y := in_xor (in_mono sub z) (in_mem (List.mem_filter.mpr ⟨List.mem_cons_self, pb⟩))
      rw [x_cancel] at y; exact y
/-- the words of a basis with their top within -/
def tops (B N : List Nat) : List Nat := B.filter fun b => decide (b.log2 ∈ N)
def inside (F N : List Nat) : List Nat := F.filter fun x => decide (x ||| wordOf N = wordOf N)
theorem within_eq (F N : List Nat) : within F N = Nat.log2 (inside F N).length := rfl
theorem inside_mem {B F N : List Nat} (W : Whole B F) (hN : N.Nodup) {x : Nat} : x ∈ inside F N ↔ InS B x ∧ Sub x N := by
  unfold inside
  rw [List.mem_filter, W.mem, sub_test hN]
theorem inside_in {B F N : List Nat} (P : Plain B) (W : Whole B F) (hN : N.Nodup) {x : Nat} (h : x ∈ inside F N) : x ∈ spanL (tops B N) := by
  obtain ⟨h1, h2⟩ := (inside_mem W hN).mp h
  refine in_filter P h1 fun b hb pb => ?_
  have pb := of_decide_eq_false pb
  cases e : x.testBit b.log2 with
  | false => rfl
  | true => exact absurd (h2 _ e) pb
theorem inside_len {B F N : List Nat} (P : Plain B) (W : Whole B F) (hN : N.Nodup) : (inside F N).length ≤ 2 ^ (tops B N).length := by
  rw [← span_len]
  exact nodup_len (W.nd.sublist List.filter_sublist) fun x hx => inside_in P W hN hx
theorem inside_pos {B F N : List Nat} (W : Whole B F) (hN : N.Nodup) : (inside F N).length ≠ 0 := by
  have : 0 ∈ inside F N := (inside_mem W hN).mpr ⟨in_zero B, fun i h => by simp at h⟩
  have := List.length_pos_of_mem this
  omega
theorem within_le {B F N : List Nat} (P : Plain B) (W : Whole B F) (hN : N.Nodup) : within F N ≤ (tops B N).length := by
  rw [within_eq]
  have a := inside_len P W hN
  have b := inside_pos W hN
  have c : (inside F N).length < 2 ^ ((tops B N).length + 1) := by
    have := Nat.two_pow_pos (tops B N).length
    rw [Nat.pow_succ]; omega
  have := (Nat.log2_lt b).mpr c
  omega
/-- where all words with their top within are within: so many -/
theorem within_full {B F N : List Nat} (P : Plain B) (W : Whole B F) (hN : N.Nodup) (h : ∀ b, b ∈ B → b.log2 ∈ N → Sub b N) : within F N = (tops B N).length := by
  have e : (inside F N).length = 2 ^ (tops B N).length := by
    refine Nat.le_antisymm (inside_len P W hN) ?_
    rw [← span_len]
    refine nodup_len (span_nodup (plain_sub P List.filter_sublist)) fun x hx => (inside_mem W hN).mpr ⟨in_mono (fun b hb => (List.mem_filter.mp hb).1) hx, ?_⟩
    refine in_ind (P := fun x => Sub x N) (fun i h => by simp at h) hx fun b hb y hy i hi => ?_
    obtain ⟨h1, h2⟩ := List.mem_filter.mp hb
    rw [Nat.testBit_xor] at hi
    cases e : y.testBit i with
    | true => exact hy i e
    | false =>
      rw [e, Bool.false_xor] at hi
      exact h b h1 (of_decide_eq_true h2) i hi
  rw [within_eq, e, Nat.log2_two_pow]
theorem within_eq_full {B F N : List Nat} (P : Plain B) (W : Whole B F) (hN : N.Nodup) (h : within F N = (tops B N).length) : ∀ b, b ∈ B → b.log2 ∈ N → Sub b N := by
  intro b hb hl
  have a : 2 ^ (tops B N).length ≤ (inside F N).length := by
    rw [← h, within_eq]
    exact Nat.log2_self_le (inside_pos W hN)
  rw [← span_len] at a
  have z := sub_back (W.nd.sublist List.filter_sublist) (fun x hx => inside_in P W hN hx) a b (in_mem (List.mem_filter.mpr ⟨hb, decide_eq_true hl⟩))
  exact ((inside_mem W hN).mp z).2
theorem log2_whole {B F : List Nat} (P : Plain B) (W : Whole B F) : Nat.log2 F.length = B.length := by
  have e : F.length = 2 ^ B.length := by
    rw [← span_len]
    exact Nat.le_antisymm (nodup_len W.nd fun x hx => (W.mem x).mp hx) (nodup_len (span_nodup P) fun x hx => (W.mem x).mpr hx)
  rw [e, Nat.log2_two_pow]
/-! ### the asked of a drawn room -/
section
variable {n : Nat} {B F : List Nat} {M : List (List Nat)}
theorem part_nodup (h : Parting n B M) {S : List Nat} (hS : S ∈ M) : S.Nodup := (h.rise S hS).imp fun h => Nat.ne_of_lt h
theorem part_full (h : Parting n B M) (P : Plain B) {S : List Nat} (hS : S ∈ M) : ∀ b, b ∈ B → b.log2 ∈ S → Sub b S := fun b hb hl => by
  obtain ⟨S', hS', k⟩ := h.hold b hb
  have e := flat_two h.nodup hS' hS (k _ (top_log (P.pos b hb)).1) hl
  rw [← e]; exact k
theorem within_part (h : Parting n B M) (P : Plain B) (W : Whole B F) {S : List Nat} (hS : S ∈ M) : within F S = (tops B S).length := within_full P W (part_nodup h hS) (part_full h P hS)
theorem one_of : ∀ {L : List (List Nat)} {i : Nat}, L.flatten.Nodup → i ∈ L.flatten → (L.map fun S => if i ∈ S then 1 else 0).sum = 1
  | [], i, _, h => by simp at h
  | S :: L, i, hn, h => by
    rw [List.flatten_cons, List.nodup_append] at hn
    obtain ⟨_, h2, h3⟩ := hn
    rw [List.map_cons, List.sum_cons]
    by_cases e : i ∈ S
    · rw [if_pos e]
      have z : ∀ {L : List (List Nat)}, i ∉ L.flatten → (L.map fun S => if i ∈ S then 1 else 0).sum = 0 := by
        intro L
        induction L with
        | nil => intro _; rfl
        | cons T L ih =>
          intro k
          rw [List.flatten_cons, List.mem_append, not_or] at k
          rw [List.map_cons, List.sum_cons, if_neg k.1, ih k.2]
      rw [z fun k => h3 i e i k rfl]
    · rw [if_neg e]
      rw [List.flatten_cons, List.mem_append] at h
      rw [one_of h2 (h.resolve_left e)]
theorem tops_sum : ∀ {B : List Nat} {L : List (List Nat)}, L.flatten.Nodup → (∀ b, b ∈ B → b.log2 ∈ L.flatten) → (L.map fun S => (tops B S).length).sum = B.length
  | [], L, _, _ => by
    have : (L.map fun S => (tops [] S).length) = L.map fun _ => 0 := rfl
    rw [this]
    induction L with
    | nil => rfl
    | cons S L ih => rw [List.map_cons, List.sum_cons]; simpa using ih (by
        rename_i hn _ 
        rw [List.flatten_cons, List.nodup_append] at hn; exact hn.2.1) (fun b hb => by cases hb) rfl
  | b :: B, L, hn, h => by
    have ih := tops_sum (B := B) hn fun c hc => h c (List.mem_cons_of_mem _ hc)
    have one := one_of hn (h b List.mem_cons_self)
    have e : ∀ L : List (List Nat), (L.map fun S => (tops (b :: B) S).length).sum = (L.map fun S => if b.log2 ∈ S then 1 else 0).sum + (L.map fun S => (tops B S).length).sum := by
      intro L
      induction L with
      | nil => rfl
      | cons S L ih =>
        rw [List.map_cons, List.sum_cons, ih, List.map_cons, List.sum_cons, List.map_cons, List.sum_cons]
        have e1 : (tops (b :: B) S).length = (if b.log2 ∈ S then 1 else 0) + (tops B S).length := by
          unfold tops
          rw [List.filter_cons]
          by_cases k : b.log2 ∈ S
          · rw [if_pos (decide_eq_true k), if_pos k, List.length_cons]; omega
          · rw [if_neg (by simpa using k), if_neg k]; omega
        rw [e1]; omega
    rw [e, one, ih, List.length_cons]; omega
theorem drawn_sum (h : Parting n B M) (P : Plain B) (hB : ∀ b, b ∈ B → b < 2 ^ n) (W : Whole B F) : (M.map fun S => within F S).sum = Nat.log2 F.length := by
  rw [log2_whole P W, ← tops_sum h.nodup fun b hb => h.cover.mem_iff.mpr (List.mem_range.mpr (bit_lt (hB b hb) (top_log (P.pos b hb)).1))]
  exact congrArg List.sum (List.map_congr_left fun S hS => within_part h P W hS)
def nearOf (S : List Nat) (code : Nat) : List Nat := ((List.range S.length).filter fun i => code.testBit i).map fun i => S.getD i 0
def farOf (S N : List Nat) : List Nat := S.filter fun s => !decide (s ∈ N)
theorem near_nodup {S : List Nat} (h : S.Nodup) (code : Nat) : (nearOf S code).Nodup := by
  unfold nearOf
  refine List.pairwise_map.mpr ((List.nodup_range.sublist List.filter_sublist).imp_of_mem fun {a b} ha hb ne e => ?_)
  have ha := List.mem_range.mp (List.mem_filter.mp ha).1
  have hb := List.mem_range.mp (List.mem_filter.mp hb).1
  rw [List.getD_eq_getElem?_getD, List.getD_eq_getElem?_getD, List.getElem?_eq_getElem ha, List.getElem?_eq_getElem hb] at e
  exact ne ((List.getElem_inj h).mp e)
theorem near_mem {S : List Nat} {code x : Nat} (h : x ∈ nearOf S code) : x ∈ S := by
  obtain ⟨i, hi, rfl⟩ := List.mem_map.mp h
  have hi := List.mem_range.mp (List.mem_filter.mp hi).1
  exact getD_mem hi 0
theorem split_tops (B S N : List Nat) (hN : ∀ x, x ∈ N → x ∈ S) : (tops B N).length + (tops B (farOf S N)).length = (tops B S).length := by
  induction B with
  | nil => rfl
  | cons b B ih =>
    unfold tops at ih ⊢
    rw [List.filter_cons, List.filter_cons, List.filter_cons]
    have hf : b.log2 ∈ farOf S N ↔ b.log2 ∈ S ∧ b.log2 ∉ N := by
      unfold farOf; rw [List.mem_filter]; simp
    by_cases h1 : b.log2 ∈ N
    · rw [if_pos (decide_eq_true h1), if_neg (by simp [hf, h1]), if_pos (decide_eq_true (hN _ h1)), List.length_cons, List.length_cons]; omega
    · by_cases h2 : b.log2 ∈ S
      · rw [if_neg (by simpa using h1), if_pos (decide_eq_true (hf.mpr ⟨h2, h1⟩)), if_pos (decide_eq_true h2), List.length_cons, List.length_cons]; omega
      · rw [if_neg (by simpa using h1), if_neg (by simp [hf, h2]), if_neg (by simpa using h2)]; exact ih
theorem drawn_split (h : Parting n B M) (P : Plain B) (W : Whole B F) {S : List Nat} (hS : S ∈ M) {code : Nat} (h1 : 1 ≤ code) (h2 : code < 2 ^ (S.length - 1)) :
    within F (nearOf S code) + within F (farOf S (nearOf S code)) ≠ within F S := by
  intro e
  have ndS := part_nodup h hS
  have ndN := near_nodup ndS code
  have ndF : (farOf S (nearOf S code)).Nodup := ndS.sublist List.filter_sublist
  have sN : ∀ x, x ∈ nearOf S code → x ∈ S := fun x hx => near_mem hx
  have hf : ∀ x, x ∈ farOf S (nearOf S code) ↔ x ∈ S ∧ x ∉ nearOf S code := fun x => by
    unfold farOf; rw [List.mem_filter]; simp
  have a := within_le P W ndN
  have b := within_le P W ndF
  have c := split_tops B S (nearOf S code) sN
  rw [within_part h P W hS] at e
  have fN := within_eq_full P W ndN (by omega)
  have fF := within_eq_full P W ndF (by omega)
  obtain ⟨p, hp, _⟩ := top_ex (show code ≠ 0 by omega)
  have hpl : p < S.length - 1 := bit_lt h2 hp
  have clear : ∀ b, b ∈ B → Clear (fun i => decide (i ∈ nearOf S code)) b := fun b hb => by
    by_cases k1 : b.log2 ∈ nearOf S code
    · left; intro i hi; exact decide_eq_true (fN b hb k1 i hi)
    · right; intro i hi
      refine decide_eq_false fun k => ?_
      by_cases k2 : b.log2 ∈ S
      · have z := fF b hb ((hf _).mpr ⟨k2, k1⟩) i hi
        exact ((hf i).mp z).2 k
      · obtain ⟨S', hS', k3⟩ := h.hold b hb
        have y := flat_two h.nodup hS' hS (k3 i hi) (sN i k)
        exact k2 (y ▸ k3 _ (top_log (P.pos b hb)).1)
  have hm : S.getD p 0 ∈ nearOf S code := List.mem_map.mpr ⟨p, List.mem_filter.mpr ⟨List.mem_range.mpr (by omega), hp⟩, rfl⟩
  rcases h.conn S hS _ clear with z | z
  · have hl : S.length - 1 < S.length := by omega
    have y := of_decide_eq_true (z (S.getD (S.length - 1) 0) (getD_mem hl 0))
    obtain ⟨i, hi, ei⟩ := List.mem_map.mp y
    obtain ⟨hi1, hi2⟩ := List.mem_filter.mp hi
    have hi1 := List.mem_range.mp hi1
    rw [List.getD_eq_getElem?_getD, List.getD_eq_getElem?_getD, List.getElem?_eq_getElem hi1, List.getElem?_eq_getElem hl] at ei
    have ii : i = S.length - 1 := (List.getElem_inj ndS).mp ei
    have := bit_lt h2 hi2
    omega
  · exact absurd hm (of_decide_eq_false (z _ (sN _ hm)))
end
end K7
namespace K7
open PySem PySem.Spec PyProof.Rows L2 Evl K71
theorem t_yes' {σ : L2.St} {H : Hp} {te : TE} {Q : VK} {N : Hp → Prop} (h : te σ H Q) : tYes σ H fun b H3 => if b = true then te σ H3 Q else N H3 := by
  show if true = true then te σ H Q else N H
  exact iteT h
theorem q_addDraw {σ : L2.St} {H : Hp} {tz : TS} {D : Ends} {p : Addr} {i : Nat} (h0 : σ[0]? = some (some (.ref p))) (hp : PotAt H p) (k : ∀ H1 d, d < 6 → But p H H1 → PotAt H1 p → tz D (σ.set i (some (nv (2 + d)))) H1) :
    tSeq (tAsg (tOp (rI0 fun i j => .int (i + j)) (tC (.int 2)) (tCall spDraw [] E0 (tCons (tVar 0) (tCons (tC (.int 6)) tNil)))) (gName i)) tz D σ H := by
  refine ⟨.ref p, h0, p, 6, rfl, hp, by decide, by decide, fun H1 d hd bt hp1 => ⟨2, (d : Int), rfl, rfl, ?_⟩⟩
  have e : V.int (2 + (d : Int)) = nv (2 + d) := congrArg V.int (by omega)
  show tz D (σ.set i (some (V.int (2 + (d : Int))))) H1
  rw [e]
  exact k H1 d hd bt hp1
theorem q_drawWords {K : PySem.W.Frag} {σ : L2.St} {H : Hp} {tz : TS} {D : Ends} {p : Addr} {n : Nat} (h0 : σ[0]? = some (some (.ref p))) (h0' : (wipe σ [3])[0]? = some (some (.ref p))) (h1 : ∀ x, ((wipe σ [3]).set 3 (some x))[1]? = some (some (nv n)) ∧ ((wipe σ [3]).set 3 (some x))[0]? = some (some (.ref p)) ∧ wipe ((wipe σ [3]).set 3 (some x)) [3] = wipe σ [3]) (hp : PotAt H p) (hn : n ≤ 20)
    (k : ∀ H1 wq (W : List Nat), PotAt H1 p → H1 wq = some (.lst (nvs W)) → W.length ≤ 4 → (∀ x, x ∈ W → x < 2 ^ n) → tz D (σ.set 2 (some (.ref wq))) H1) :
    tSeq (tAsg (tLc (iRng1 (tCons (tCall spDraw [] E0 (tCons (tVar 0) (tCons (tC (.int 5)) tNil))) tNil)) (gName 3) tYes (tCall spDraw [] E0 (tCons (tVar 0) (tCons (tOp (rI CPow fun i j => .int (i * 2 ^ j.toNat)) (tC (.int 1)) (tVar 1)) tNil))) [3]) (gName 2)) tz D σ H := by
  refine ⟨.ref p, h0, p, 5, rfl, hp, by decide, by decide, fun H1 m hm bt hp1 => ⟨(m : Int), rfl, by omega, by omega, fun wq nwq => ?_⟩⟩
  have nwp : wq ≠ p := by
    obtain ⟨a, b, h, _⟩ := hp1
    intro e; rw [e, h] at nwq; cases nwq
  refine lc_range (lo := 0) (n := (m : Int).toNat) (fun i H' => ∃ W : List Nat, W.length = i ∧ (∀ x, x ∈ W → x < 2 ^ n) ∧ PotAt H' p ∧ H' wq = some (.lst (nvs W))) ⟨[], rfl, fun _ h => (nomatch h), hp1.upd nwp.symm, upd_same⟩ (fun i H' hi ⟨W, lW, aW, hp', hW⟩ => ?_) (fun H' ⟨W, lW, aW, hp', hW⟩ => ?_)
  · obtain ⟨c1, c2, c3⟩ := h1 (.int (0 + (i : Int)))
    refine ⟨c3, t_yes' ?_⟩
    refine ⟨.ref p, c2, nv n, c1, 1, (n : Int), rfl, rfl, ⟨by omega, by omega, by decide⟩, p, 2 ^ n, ?_, hp', Nat.two_pow_pos n, ?_, fun H2 d hd bt2 hp2 => ⟨nvs W, bt2 _ _ nwp hW, by rw [nvs_len]; exact sz_lt (by omega), W ++ [d], by rw [List.length_append, lW]; rfl, fun x hx => ?_, hp2.upd nwp.symm, ?_⟩⟩
    · have e : ((1 : Int) * 2 ^ (n : Int).toNat) = ((2 ^ n : Nat) : Int) := by
        rw [Int.toNat_natCast, Int.one_mul, Int.natCast_pow]; rfl
      show [V.ref p, V.int ((1 : Int) * 2 ^ (n : Int).toNat)] ++ [] = _
      rw [e]; rfl
    · exact Nat.lt_of_le_of_lt (Nat.pow_le_pow_right (by decide) hn) (by decide)
    · rcases List.mem_append.mp hx with hx | hx
      · exact aW x hx
      · rw [List.mem_singleton.mp hx]; exact hd
    · rw [upd_same]; unfold nvs; rw [List.map_append]; rfl
  · exact k H' wq W hp' hW (by omega) aW
theorem ev_neSorted {K : PySem.W.Frag} {σ : L2.St} {H : Hp} {ta te : TE} {tq : Addr} {L : List (Addr × List Nat)} (ha : Ev ta σ H (.ref tq)) (htq : H tq = some (.lst (refs L))) (hL : ∀ e, e ∈ L → H e.1 = some (.lst (nvs e.2))) (hs : (L.map (·.2)).Pairwise rowLe) (h : EvLs te σ H (L.map (·.2))) :
    Ev (tOp (rNeD K) ta (tCB (rSortedRows K) (tCons te tNil))) σ H (.bl false) := fun H1 e Q q =>
  ha H1 e _ fun H2 e2 => h H2 (e.trans e2) _ fun c H3 ⟨nc, eb, L2, eL2, hc, aL2⟩ => ⟨c, L2, rfl, sq_of hc, fun z hz => sq_of (aL2 z hz).2, fun L' r hperm hsort nr => by
    have er := Ex.new (o := HO.lst (refs L')) nr
    have E := (e.trans e2).trans eb
    have eM : L'.map (·.2) = L.map (·.2) := by
      have z := hperm.map (·.2)
      rw [eL2] at z
      exact rows_one z hsort hs
    refine ⟨rowsD (L.map (·.2)), rowsD (L'.map (·.2)), dp_rowsD (sq_of (er _ _ (E _ _ htq))) (fun z hz => sq_of (er _ _ (E _ _ (hL z hz)))), dp_rowsD (sq_of upd_same) (fun z hz => sq_of (er _ _ (aL2 z (hperm.mem_iff.mp hz)).2)), shaped_rows _, shaped_rows _, ?_⟩
    rw [eM, eqv_rows]
    exact q _ ((e2.trans eb).trans er)⟩
section
variable {P : Program} {w : World} {K : PySem.W.Frag} {mg : Str → Option Value} {base : Heap}
def spDrawn : Sp := fun vs H Q _ => ∃ p, vs = [.ref p] ∧ PotAt H p ∧ ∀ H', Q (.bl true) H'
/-- what the rest of the def asks, told and whole as they are -/
theorem ok_drawn {CR fR : Addr} (D : Df K mg "_law_drawn_right" s_l_drawn_right) (T : Free mg) (TR : Cl2 K mg "Room" "own_places" "own_basis" CR fR) (OI : OkM P w K mg base 6 fR ["self", "places", "words"] (spRoomInit K CR)) (OP : OkP P w K mg base CR)
    (OD : Ok P w K mg base 1 "_law_draw" ["_law_pot_here", "_law_size"] spDraw) (OS : Ok P w K mg base 1 "_law_span" ["_law_words"] (spSpan K)) (OF : Ok P w K mg base 1 "_law_free" ["_law_words"] (spFree K)) (OW : Ok P w K mg base 2 "_law_within" ["_law_words", "_law_spots"] (spWithin K)) :
    Ok P w K mg base 8 "_law_drawn_right" ["_law_pot_here"] spDrawn := by
  refine ok_mk D (fun f fd F => F.binds fun _ _ _ _ _ _ us hl => match us, hl with | [_], _ => rfl) fun f fd F => F.ok sc_l_drawn_right (fun vs H Q E h => ?_) (fun cdv A outer s H vs Q E hr h => ?_)
  · obtain ⟨p, rfl, _⟩ := h; rfl
  · obtain ⟨p, rfl, hp, q⟩ := h
    obtain ⟨fdI, bI, GI⟩ := OI.ex
    obtain ⟨f1, fd1, g1, k1, b1, _, G1⟩ := OP.ex
    obtain ⟨f2, fd2, g2, k2, b2, G2⟩ := OD.ex
    obtain ⟨f3, fd3, g3, k3, b3, G3⟩ := OS.ex
    obtain ⟨f4, fd4, g4, k4, b4, G4⟩ := OF.ex
    obtain ⟨f5, fd5, g5, k5, b5, G5⟩ := OW.ex
    refine ⟨_, pss_cons (ps_set (i := 1) sc_l_drawn_right.nd rfl (.inr rfl) (pe_op op_add pe_int (pe_call G2 (hr.mono (by decide)) (by rfl) g2 k2 b2 .nil pass0 (pa_cons (pv 0) (pa_cons pe_int pa_nil)))))
      (pss_cons (ps_setLc (i := 2) (own := [("_law_turn", 3)]) (g := gName 3) (tt := tYes) (by rfl) sc_l_drawn_right.nd rfl rfl (sw_true rfl rfl rfl (by decide +kernel)) (pi_range1 (by rfl) T.range (pa_cons (pe_call G2 (hr.mono (by decide)) (by rfl) g2 k2 b2 .nil pass0 (pa_cons (pv 0) (pa_cons pe_int pa_nil))) pa_nil))
        (blkOk_by (N := ["_law_pot_here", "_law_places", "_law_words", "_law_turn", "_law_told", "_law_whole", "_law_flat", "_law_spots", "_law_many", "_law_code", "_law_near", "_law_at", "_law_far", "_law_spot"]) (sc := defScope s_l_drawn_right) (by decide +kernel))
        (fun _ _ _ _ _ => pg_name (i := 3) sc_l_drawn_right.nd rfl (.inl rfl)) (fun _ _ _ _ _ => pts_nil) (fun _ _ _ _ _ => pe_call G2 (hr.mono (by decide)) (by rfl) g2 k2 b2 .nil pass0 (pa_cons (pv 0) (pa_cons (pe_op op_shl pe_int (pv 1)) pa_nil))))
      (pss_cons (ps_asg (pe_tup (pa_cons (pe_call G1 (hr.mono (by decide)) (by rfl) g1 k1 b1 .nil pass0 (pa_cons (pe_make TR.make GI hr (by rfl) TR.mgC bI .nil pass0 (pa_cons (pv 1) (pa_cons (pv 2) pa_nil))) pa_nil))
          (pa_cons (pe_call G3 (hr.mono (by decide)) (by rfl) g3 k3 b3 .nil pass0 (pa_cons (pv 2) pa_nil)) pa_nil)))
        (pg_tup rfl (pgs_cons (pg_name (i := 4) sc_l_drawn_right.nd rfl (.inl rfl)) (pgs_cons (pg_name (i := 5) sc_l_drawn_right.nd rfl (.inr rfl)) pgs_nil))))
      (pss_cons (ps_set (i := 6) sc_l_drawn_right.nd rfl (.inl rfl) (pe_lst pa_nil))
      (pss_cons (ps_for PassesOwn.never rfl (pi_list (pv 4)) (pg_name (i := 7) sc_l_drawn_right.nd rfl (.inr rfl)) (pss_one (ps_expr (pe_bm PySem.F.plainAttrs_list PySem.F.slot_list_extend PySem.F.type_list_extend mt_extend (pv 6) (pa_cons (pv 7) pa_nil)))))
      (pss_cons (ps_if (PW.pt (pw_or (pt_cmpR (op_neD hr.units) (pe_callB cr_sortedI (by rfl) T.sorted (by decide +kernel) (pa_cons (pv 6) pa_nil)) (pe_listRg rfl (by rfl) T.list (prg_1 (by rfl) T.range (pv 1))) (nomark _))
          (pw_or1 (pt_cmpR (op_neD hr.units) (pv 4) (pe_callB (cr_sortedRows hr.units) (by rfl) T.sorted (by decide +kernel) (pa_cons (pe_lc (own := [("_law_spots", 7)]) (g := gName 7) (tt := tYes) rfl sc_l_drawn_right.nd (pi_list (pv 4))
            (blkOk_by (N := ["_law_pot_here", "_law_places", "_law_words", "_law_turn", "_law_told", "_law_whole", "_law_flat", "_law_spots", "_law_many", "_law_code", "_law_near", "_law_at", "_law_far", "_law_spot"]) (sc := defScope s_l_drawn_right) (by decide +kernel))
            (fun _ _ _ _ _ => pg_name (i := 7) sc_l_drawn_right.nd rfl (.inl rfl)) (fun _ _ _ _ _ => pts_nil) (fun _ _ _ _ _ => pe_callB (show CallR _ _ (rSortedI K) from cr_sortedI) (by rfl) T.sorted (by decide +kernel) (pa_cons (pv 7) pa_nil))) pa_nil)) (nomark _))))) (pss_one (ps_ret pe_bl)) pss_nil)
      (pss_cons (ps_if (pt_cmpR op_ne (pe_callB (cr_sum rfl) (by rfl) T.sum (by decide +kernel) (pa_cons (pe_lc (own := [("_law_spots", 7)]) (g := gName 7) (tt := tYes) rfl sc_l_drawn_right.nd (pi_list (pv 4))
            (blkOk_by (N := ["_law_pot_here", "_law_places", "_law_words", "_law_turn", "_law_told", "_law_whole", "_law_flat", "_law_spots", "_law_many", "_law_code", "_law_near", "_law_at", "_law_far", "_law_spot"]) (sc := defScope s_l_drawn_right) (by decide +kernel))
            (fun _ _ _ _ _ => pg_name (i := 7) sc_l_drawn_right.nd rfl (.inl rfl)) (fun _ _ _ _ _ => pts_nil) (fun _ _ _ _ _ => pe_call G5 (hr.mono (by decide)) (by rfl) g5 k5 b5 .nil pass0 (pa_cons (pv 5) (pa_cons (pv 7) pa_nil)))) pa_nil))
          (pe_call G4 (hr.mono (by decide)) (by rfl) g4 k4 b4 .nil pass0 (pa_cons (pv 5) pa_nil)) (nomark _)) (pss_one (ps_ret pe_bl)) pss_nil)
      (pss_cons (ps_for PassesOwn.never rfl (pi_list (pv 4)) (pg_name (i := 7) sc_l_drawn_right.nd rfl (.inr rfl))
        (pss_cons (ps_set (i := 8) sc_l_drawn_right.nd rfl (.inl rfl) (pe_call G5 (hr.mono (by decide)) (by rfl) g5 k5 b5 .nil pass0 (pa_cons (pv 5) (pa_cons (pv 7) pa_nil))))
        (pss_one (ps_for PassesOwn.never rfl (pi_range2 (by rfl) T.range (pa_cons pe_int (pa_cons (pe_op op_shl pe_int (pe_op op_sub (pe_callB call_len_seq (by rfl) T.len PySem.boot_len (pa_cons (pv 7) pa_nil)) pe_int)) pa_nil))) (pg_name (i := 9) sc_l_drawn_right.nd rfl (.inr rfl))
          (pss_cons (ps_set (i := 10) sc_l_drawn_right.nd rfl (.inr rfl) (pe_lc (own := [("_law_at", 11)]) (g := gName 11) rfl sc_l_drawn_right.nd (pi_range1 (by rfl) T.range (pa_cons (pe_callB call_len_seq (by rfl) T.len PySem.boot_len (pa_cons (pv 7) pa_nil)) pa_nil))
            (blkOk_by (N := ["_law_pot_here", "_law_places", "_law_words", "_law_turn", "_law_told", "_law_whole", "_law_flat", "_law_spots", "_law_many", "_law_code", "_law_near", "_law_at", "_law_far", "_law_spot"]) (sc := defScope s_l_drawn_right) (by decide +kernel))
            (fun _ _ _ _ _ => pg_name (i := 11) sc_l_drawn_right.nd rfl (.inl rfl)) (fun _ _ _ _ _ => pts_one (pt_cmpR op_eq (pe_op op_mod (pe_callTy call_int1 (by rfl) T.int (by decide +kernel) (pa_cons (pe_op op_shr (pv 9) (pv 11)) pa_nil)) pe_int) pe_int (nomark _)))
            (fun _ _ _ _ _ => pe_ix (show IxR _ (rIxL K) from ix_list) (pv 7) (pv 11) (fun _ _ => rfl))))
          (pss_cons (ps_setLc (i := 12) (own := [("_law_spot", 13)]) (g := gName 13) (by rfl) sc_l_drawn_right.nd rfl rfl (sw_true rfl rfl rfl (by decide +kernel)) (pi_list (pv 7))
            (blkOk_by (N := ["_law_pot_here", "_law_places", "_law_words", "_law_turn", "_law_told", "_law_whole", "_law_flat", "_law_spots", "_law_many", "_law_code", "_law_near", "_law_at", "_law_far", "_law_spot"]) (sc := defScope s_l_drawn_right) (by decide +kernel))
            (fun _ _ _ _ _ => pg_name (i := 13) sc_l_drawn_right.nd rfl (.inl rfl)) (fun _ _ _ _ _ => pts_one (pt_cmpR (show OpR _ _ (rIn K true) from op_notIn_seq) (pv 13) (pv 10) (by rfl))) (fun _ _ _ _ _ => pv 13))
          (pss_one (ps_if (pt_cmpR op_eq (pe_op op_add (pe_call G5 (hr.mono (by decide)) (by rfl) g5 k5 b5 .nil pass0 (pa_cons (pv 5) (pa_cons (pv 10) pa_nil))) (pe_call G5 (hr.mono (by decide)) (by rfl) g5 k5 b5 .nil pass0 (pa_cons (pv 5) (pa_cons (pv 12) pa_nil)))) (pv 8) (nomark _)) (pss_one (ps_ret pe_bl)) pss_nil))))))))
      (pss_one (ps_ret pe_bl))))))))), ?_⟩
    refine q_addDraw rfl hp fun H1 d hd bt1 hp1 => ?_
    have hn1 : 1 ≤ 2 + d := by omega
    have hn2 : 2 + d ≤ 7 := by omega
    generalize 2 + d = n at *
    refine q_drawWords (K := K) (n := n) rfl rfl (fun x => ⟨rfl, rfl, rfl⟩) hp1 (by omega) fun H2 wq ws hp2 hW lW aW => ?_
    refine ⟨nv n, rfl, .ref wq, rfl, fun x dx nx ndx ne => ?_⟩
    have e0 : Ex H2 (upd (upd H2 dx (.own x)) x (.ins CR dx [])) := (Ex.new ndx).trans (Ex.new (by rw [upd_ne ne.symm]; exact nx))
    refine ⟨x, dx, n, wq, ws, rfl, upd_same, e0 _ _ hW, by omega, by omega, by omega, aW, fun H4 B bt4 R4 PB SB LB => ⟨rfl, ?_⟩⟩
    have nwx : wq ≠ x := ne_of_none hW nx
    have hW4 := bt4 _ _ nwx (e0 _ _ hW)
    refine ⟨x, n, B, rfl, R4, by omega, by omega, fun H5 tq M N5 S5 => ?_⟩
    obtain ⟨ntq, e5, L, eL, htq, aL⟩ := N5
    refine ⟨.ref wq, rfl, wq, ws, rfl, sq_of (e5 _ _ hW4), by omega, fun H6 fq F nfq e6 hF pF => ⟨(by show 2 ≤ sizeLine; decide), fun tt ntt => ⟨tt, [.ref tq, .ref fq], rfl, st_of upd_same, rfl, .ref tq, [.ref fq], rfl, .ref fq, [], rfl, rfl, ?_⟩⟩⟩
    have e7 := Ex.new (o := HO.tup [V.ref tq, V.ref fq]) ntt
    have htq7 := e7 _ _ (e6 _ _ htq)
    have hF7 := e7 _ _ hF
    have aL7 : ∀ e, e ∈ L → (upd H6 tt (.tup [V.ref tq, V.ref fq])) e.1 = some (.lst (nvs e.2)) := fun e he => e7 _ _ (e6 _ _ (aL e he).2)
    have hB : ∀ b, b ∈ B → b < 2 ^ n := fun b hb => in_lt aW ((SB b).mp (in_mem hb))
    have PT : Parting n B M := (parts_parting (by omega) PB.pos hB).perm S5.1
    have WF : Whole B F := ((whole_of ws).perm pF).same SB
    have lF : F.length ≤ 16 := by
      rw [pF.length_eq]
      exact Nat.le_trans (spanStep_len ws) (Nat.pow_le_pow_right (n := 2) (by decide) lW)
    have lfl : M.flatten.length = n := by rw [PT.cover.length_eq, List.length_range]
    have lM : M.length ≤ n := by
      have aux : ∀ M : List (List Nat), (∀ S, S ∈ M → S ≠ []) → M.length ≤ M.flatten.length := by
        intro M
        induction M with
        | nil => intro _; exact Nat.le_refl _
        | cons S M ih =>
          intro h
          have a := ih fun S hS => h S (List.mem_cons_of_mem _ hS)
          have b := List.length_pos_iff.mpr (h S List.mem_cons_self)
          rw [List.flatten_cons, List.length_append, List.length_cons]; omega
      have := aux M PT.ne
      omega
    have lL : L.length ≤ n := by
      have := congrArg List.length eL
      rw [List.length_map] at this; omega
    have pt : ∀ e, e ∈ L → e.2 ∈ M := fun e he => by rw [← eL]; exact List.mem_map.mpr ⟨e, he, rfl⟩
    have lS : ∀ S, S ∈ M → S.length ≤ n := fun S hS => by
      have := (part_nodup PT hS)
      have z := nodup_len (m := List.range n) this fun x hx => PT.cover.mem_iff.mp (List.mem_flatten.mpr ⟨S, hS, hx⟩)
      rw [List.length_range] at z; exact z
    have iS : ∀ S, S ∈ M → ∀ i, i ∈ S → i ≤ 1000 := fun S hS i hi => by
      have := List.mem_range.mp (PT.cover.mem_iff.mp (List.mem_flatten.mpr ⟨S, hS, hi⟩)); omega
    clear e7 e6 e5 htq hF aL bt4 hW4 e0 R4 ntt nfq
    generalize upd H6 tt (.tup [V.ref tq, V.ref fq]) = H7 at *
    refine q_asgL (el_lst ea_nil (Nat.zero_le _)) fun fl H8 nfl e8 hfl => ?_
    refine q_forL (ev_var rfl) (sq_of (e8 _ _ htq7)) (fun i σ' H' => ∃ y7, σ' = [some (.ref p), some (nv n), some (.ref wq), none, some (.ref tq), some (.ref fq), some (.ref fl), y7, none, none, none, none, none, none] ∧ Ex H7 H' ∧ H' fl = some (.lst (nvs ((L.take i).map (·.2)).flatten)))
      (fun H9 e9 => ⟨none, rfl, e8.trans e9, e9 _ _ hfl⟩) (fun i σ' H' _ ⟨_, _, e, _⟩ => sq_of (e _ _ htq7)) ?_ ?_
    · rintro i y σ' H' hy ⟨y7, rfl, e, hfl'⟩
      rw [List.getElem?_map] at hy
      cases ex : L[i]? with
      | none => rw [ex] at hy; cases hy
      | some z =>
        rw [ex] at hy
        obtain rfl : V.ref z.1 = y := Option.some.inj hy
        have hz := List.mem_of_getElem? ex
        have eT : ((L.take (i + 1)).map (·.2)).flatten = ((L.take i).map (·.2)).flatten ++ z.2 := by
          rw [take_snoc ex, List.map_append, List.flatten_append]; simp
        have lT : (((L.take i).map (·.2)).flatten ++ z.2).length ≤ n := by
          rw [← eT, ← lfl, ← eL]
          conv => rhs; rw [← List.take_append_drop (i + 1) L]
          rw [List.map_append, List.flatten_append, List.length_append]
          exact Nat.le_add_right _ _
        rw [List.length_append] at lT
        refine ⟨.ref fl, rfl, .inl ⟨rfl, _, sq_of hfl'⟩, .ref z.1, rfl, fl, z.1, _, _, rfl, rfl, hfl', e _ _ (aL7 z hz), by rw [nvs_len, nvs_len]; exact sz_of (by omega), some (.ref z.1), rfl, Ex.mut e nfl, ?_⟩
        rw [upd_same, eT]; unfold nvs; rw [List.map_append]
    · rintro σ' H9 ⟨y7, rfl, e9, hfl9⟩
      have lr : (refs L).length = L.length := List.length_map ..
      rw [lr, List.take_of_length_le (Nat.le_refl _), eL] at hfl9
      have htq9 := e9 _ _ htq7
      have hF9 := e9 _ _ hF7
      have aL9 : ∀ e, e ∈ L → H9 e.1 = some (.lst (nvs e.2)) := fun e he => e9 _ _ (aL7 e he)
      have hsum := drawn_sum PT PB hB WF
      refine q_when (b := false) (et_or (a := false) (b := false) (et_test fun Ha ea Qa qa => ?_) (fun _ => et_test fun Ha ea Qa qa => ?_)) (fun h => nomatch h) (fun _ H10 e10 => ?_)
      · refine (el_sortedI (K := K) (a := fl) (ns := M.flatten) (ms := List.range n) (ev_var rfl) (sq_of (ea _ _ hfl9)) PT.cover.symm (rise_le List.pairwise_lt_range)) Ha (Ex.refl Ha) _ fun c Hb nc eb hc => ?_
        refine ⟨nv n, rfl, (n : Int), rfl, RgOk.of_le (by omega) (by omega) (by omega) (by omega), fun d nd => ?_⟩
        rw [rg_nvs]
        have ed := Ex.new (o := HO.lst (nvs (List.range n))) nd
        refine ⟨rowD (List.range n), rowD (List.range n), dp_row (sq_of (ed _ _ hc)), dp_row (sq_of upd_same), shaped_row _, shaped_row _, ?_⟩
        rw [eqv_row]
        exact qa _ (eb.trans ed)
      · refine ev_neSorted (K := K) (L := L) (ev_var rfl) (ea _ _ htq9) (fun z hz => ea _ _ (aL9 z hz)) (by rw [eL]; exact S5.2) (lcs_l (K := K) (l := L) (enc := fun e => .ref e.1) (·.2) (ev_var rfl) (sq_of (ea _ _ htq9)) (by omega) (fun _ => rfl)
          (fun z hz Hb eb => el_sortedI (K := K) (a := z.1) (ns := z.2) (ms := z.2) (ev_var rfl) (sq_of (eb _ _ (ea _ _ (aL9 z hz)))) (List.Perm.refl _) (rise_le (PT.rise _ (pt z hz))))) Ha (Ex.refl Ha) Qa qa
      have htq10 := e10 _ _ htq9
      have hF10 := e10 _ _ hF9
      have aL10 : ∀ e, e ∈ L → H10 e.1 = some (.lst (nvs e.2)) := fun e he => e10 _ _ (aL9 e he)
      refine q_when (b := false) (et_test (ev_is (ev_op (x := nv (L.map fun z => within F z.2).sum) (y := nv (Nat.log2 F.length)) (ev_cbL (lc_l (K := K) (l := L) (enc := fun e => .ref e.1) (fun _ => true) (fun z => nv (within F z.2)) (ev_var rfl) (sq_of htq10) (by omega) (fun _ => rfl) (fun _ _ _ _ => et_yes)
        (fun z hz Hb eb _ => ev_call (ea_cons (ev_var rfl) (ea_cons (ev_var rfl) ea_nil)) (spv_within (sq_of (eb _ _ hF10)) (by omega) (sq_of (eb _ _ (aL10 z hz))) (by have := lS _ (pt z hz); omega) (iS _ (pt z hz))))) fun c Hb hc => rc_sum (ns := L.map fun z => within F z.2) (sq_of (by
          rw [hc, List.filter_eq_self.mpr fun _ _ => rfl]; unfold nvs; rw [List.map_map]; rfl)))
        (ev_call (ea_cons (ev_var rfl) ea_nil) (by
          have z := spv_free (K := K) (sq_of hF10)
          rw [nvs_len] at z; exact z)) rv_neN) (by
          have e1 : (L.map fun z => within F z.2).sum = Nat.log2 F.length := by
            rw [← hsum, ← eL, List.map_map]; rfl
          rw [e1, decide_eq_true rfl]; rfl))) (fun h => nomatch h) (fun _ H11 e11 => ?_)
      have htq11 := e11 _ _ htq10
      have hF11 := e11 _ _ hF10
      have aL11 : ∀ e, e ∈ L → H11 e.1 = some (.lst (nvs e.2)) := fun e he => e11 _ _ (aL10 e he)
      refine q_forL (ev_var rfl) (sq_of htq11) (fun i σ' H' => ∃ y7 y8 y9 y10 y12, σ' = [some (.ref p), some (nv n), some (.ref wq), none, some (.ref tq), some (.ref fq), some (.ref fl), y7, y8, y9, y10, none, y12, none] ∧ Ex H11 H')
        (fun H12 e12 => ⟨_, _, _, _, _, rfl, e12⟩) (fun i σ' H' _ ⟨_, _, _, _, _, _, e⟩ => sq_of (e _ _ htq11)) ?_ ?_
      · rintro i y σ' H' hy ⟨y7, y8, y9, y10, y12, rfl, e⟩
        rw [List.getElem?_map] at hy
        cases ex : L[i]? with
        | none => rw [ex] at hy; cases hy
        | some z =>
          rw [ex] at hy
          obtain rfl : V.ref z.1 = y := Option.some.inj hy
          have hz := List.mem_of_getElem? ex
          have hzM := pt z hz
          have hz1 := e _ _ (aL11 z hz)
          have lz := lS _ hzM
          have pz : 0 < z.2.length := List.length_pos_iff.mpr (PT.ne _ hzM)
          have hFz := e _ _ hF11
          refine q_asg (v := nv (within F z.2)) (ev_call (ea_cons (ev_var rfl) (ea_cons (ev_var rfl) ea_nil)) (spv_within (sq_of hFz) (by omega) (sq_of hz1) (by omega) (iS _ hzM))) fun Ha ea => ?_
          have lp : 2 ^ (z.2.length - 1) ≤ 2 ^ 6 := Nat.pow_le_pow_right (by decide) (by omega)
          obtain ⟨P2, hP2⟩ : ∃ P2, P2 = 2 ^ (z.2.length - 1) := ⟨_, rfl⟩
          rw [← hP2] at lp
          have lp : P2 ≤ 64 := lp
          refine s_forR2 (lo := 1) (n := (P2 : Int)) (ea_cons ev_c (ea_cons (ev_is (ev_op (x := nv 1) (y := nv (z.2.length - 1)) ev_c (ev_op (x := nv z.2.length) (y := nv 1) (ev_is (ev_len (xs := nvs z.2) (ev_var rfl) (sq_of (ea _ _ hz1))) (by rw [nvs_len]; rfl)) ev_c (rv_subN (by omega))) (rv_shl (by decide) (by omega))) (by rw [Nat.one_mul, ← hP2]; rfl)) ea_nil)) ⟨by decide, by decide, by omega, by omega⟩
            (fun j σ2 H2 => ∃ y9 y10 y12, σ2 = [some (.ref p), some (nv n), some (.ref wq), none, some (.ref tq), some (.ref fq), some (.ref fl), some (.ref z.1), some (nv (within F z.2)), y9, y10, none, y12, none] ∧ Ex H11 H2) (fun Hb eb => ⟨y9, y10, y12, rfl, (e.trans ea).trans eb⟩) ?_ ?_
          · rintro j σ2 Hb hj ⟨y9, y10, y12, rfl, eb⟩
            have ec : V.int (1 + (j : Int)) = nv (1 + j) := congrArg V.int (by omega)
            rw [ec]
            have hc1 : 1 ≤ 1 + j := by omega
            have hc2 : 1 + j < 2 ^ (z.2.length - 1) := by rw [← hP2]; omega
            generalize 1 + j = code at *
            have hzb := eb _ _ (aL11 z hz)
            have hFb := eb _ _ hF11
            refine q_asgL (lc_r (n := z.2.length) (fun k => code.testBit k) (fun k => nv (z.2.getD k 0)) (ea_cons (ev_is (ev_len (xs := nvs z.2) (ev_var rfl) (sq_of hzb)) (by rw [nvs_len]; rfl)) ea_nil) (by omega) (fun _ => rfl)
              (fun k _ Hc _ => et_is (et_test (ev_op (y := nv 1) (ev_op (y := nv 2) (ev_cb (ea_cons (ev_op (ev_var rfl) (ev_var rfl) rv_shr) ea_nil) rc_int) ev_c (rv_modN (by decide))) ev_c rv_eqN)) (bit_test2 code k))
              (fun k hk Hc ec _ => ev_op (x := .ref z.1) (y := .int k) (ev_var rfl) (ev_var rfl) (rv_ixL (sq_of (ec _ _ hzb)) (atI_nat (by
                unfold nvs
                rw [List.getElem?_map, List.getElem?_eq_getElem hk, List.getD_eq_getElem?_getD, List.getElem?_eq_getElem hk]; rfl))))) fun nq Hc nnq ec hnq => ?_
            have hnq' : Hc nq = some (.lst (nvs (nearOf z.2 code))) := by
              rw [hnq]; unfold nearOf nvs; rw [List.map_map]; rfl
            have hzc := ec _ _ hzb
            have hFc := ec _ _ hFb
            refine q_asgL (lc_l (K := K) (l := z.2) (enc := nv) (fun k => !decide (k ∈ nearOf z.2 code)) nv (ev_var rfl) (sq_of hzc) (by omega) (fun _ => rfl)
              (fun k _ Hd ed => et_test (ev_is (ev_op (ev_var rfl) (ev_var rfl) (rv_niL (sq_of (ed _ _ hnq')) rfl (flat_nvs _))) (by rw [inV_nvs]))) (fun k _ Hd _ _ => ev_var rfl)) fun fq2 Hd nfq2 ed hfq2 => ?_
            have hfq2' : Hd fq2 = some (.lst (nvs (farOf z.2 (nearOf z.2 code)))) := hfq2
            have ndz := part_nodup PT hzM
            have lN : (nearOf z.2 code).length ≤ 1000 := by
              have := nodup_len (near_nodup ndz code) fun x hx => near_mem hx
              omega
            have lFa : (farOf z.2 (nearOf z.2 code)).length ≤ 1000 := by
              unfold farOf
              have := List.length_filter_le (fun s => !decide (s ∈ nearOf z.2 code)) z.2
              omega
            refine s_when (b := false) (et_test (ev_is (ev_op (x := nv (within F (nearOf z.2 code) + within F (farOf z.2 (nearOf z.2 code)))) (y := nv (within F z.2)) (ev_op (x := nv (within F (nearOf z.2 code))) (y := nv (within F (farOf z.2 (nearOf z.2 code))))
                (ev_call (ea_cons (ev_var rfl) (ea_cons (ev_var rfl) ea_nil)) (spv_within (sq_of (ed _ _ hFc)) (by omega) (sq_of (ed _ _ hnq')) lN (fun i hi => iS _ hzM i (near_mem hi))))
                (ev_call (ea_cons (ev_var rfl) (ea_cons (ev_var rfl) ea_nil)) (spv_within (sq_of (ed _ _ hFc)) (by omega) (sq_of hfq2') lFa (fun i hi => iS _ hzM i (List.mem_filter.mp hi).1))) rv_addN) (ev_var rfl) rv_eqN)
                (by rw [decide_eq_false (drawn_split PT PB WF hzM hc1 hc2)]))) (fun h => nomatch h) (fun _ He ee => ⟨_, _, _, rfl, ((eb.trans ec).trans ed).trans ee⟩)
          · rintro σ2 Hb ⟨y9, y10, y12, rfl, eb⟩
            exact ⟨_, _, _, _, _, rfl, eb⟩
      · rintro σ' H12 ⟨y7, y8, y9, y10, y12, rfl, e12⟩
        exact q _
end
end K7
namespace K7
open PySem K71
/-! ### the told pieces don't fall -/
def checkPc (pc : Piece) : Bool := (List.range (2 ^ pc.wide)).all fun T => !(pc.words.all fun g => (spanL pc.words).contains (g &&& T)) || (T == 0 || T == 2 ^ pc.wide - 1)
theorem check_of {pc : Piece} (h : checkPc pc = true) {T : Nat} (hT : T < 2 ^ pc.wide) (k : ∀ g, g ∈ pc.words → InS pc.words (g &&& T)) : T = 0 ∨ T = 2 ^ pc.wide - 1 := by
  unfold checkPc at h
  have z := List.all_eq_true.mp h T (List.mem_range.mpr hT)
  have e : (pc.words.all fun g => (spanL pc.words).contains (g &&& T)) = true := List.all_eq_true.mpr fun g hg => by
    rw [List.contains_iff_mem]; exact k g hg
  rw [e] at z
  simpa using z
theorem tab_check : ∀ pc, pc ∈ tabA ++ tabB → checkPc pc = true := by
  intro pc h
  simp only [tabA, tabB, List.cons_append, List.nil_append, List.mem_cons, List.not_mem_nil, or_false] at h
  rcases h with rfl | rfl | rfl | rfl | rfl | rfl | rfl | rfl | rfl | rfl <;> decide +kernel
theorem tab_ok {pc : Piece} (h : pc ∈ tabA ++ tabB ++ tabC) (k : okPc pc = true) : pc ∈ tabA ++ tabB := by
  rcases List.mem_append.mp h with h | h
  · exact h
  · exfalso
    simp only [tabC, List.mem_cons, List.not_mem_nil, or_false] at h
    subst h
    have : okPc ⟨"d12", 12, [15, 60, 240, 960, 3840, 2730], 23040⟩ = false := by decide +kernel
    rw [this] at k; cases k
/-! ### pieces beside one another -/
theorem Bld.tab {C : List (Nat × Piece)} {n : Nat} (h : Bld C n) : ∀ c, c ∈ C → c.2 ∈ tabA ++ tabB := by
  induction h with
  | nil => intro c h; cases h
  | snoc b ht ho hn ih =>
    intro c hc
    rcases List.mem_append.mp hc with hc | hc
    · exact ih c hc
    · obtain rfl := List.mem_singleton.mp hc; exact tab_ok ht ho
theorem Bld.apart {C : List (Nat × Piece)} {n : Nat} (h : Bld C n) : ∀ c d, c ∈ C → d ∈ C → c = d ∨ c.1 + c.2.wide ≤ d.1 ∨ d.1 + d.2.wide ≤ c.1 := by
  induction h with
  | nil => intro c d h; cases h
  | @snoc C n pc b ht ho hn ih =>
    have le := b.le.2
    intro c d hc hd
    rcases List.mem_append.mp hc with hc | hc
    · rcases List.mem_append.mp hd with hd | hd
      · exact ih c d hc hd
      · obtain rfl := List.mem_singleton.mp hd
        have := le c hc
        exact .inr (.inl this)
    · obtain rfl := List.mem_singleton.mp hc
      rcases List.mem_append.mp hd with hd | hd
      · have := le d hd
        exact .inr (.inr this)
      · exact .inl (List.mem_singleton.mp hd).symm
def slice (seq : List Nat) (c : Nat × Piece) : List Nat := (seq.drop c.1).take c.2.wide
theorem Bld.slices {C : List (Nat × Piece)} {n : Nat} (h : Bld C n) (seq : List Nat) : (C.map (slice seq)).flatten = seq.take n := by
  induction h with
  | nil => rfl
  | @snoc C n pc b ht ho hn ih =>
    rw [List.map_append, List.flatten_append, ih, List.take_add]
    simp [slice]
theorem slice_mem {seq : List Nat} {c : Nat × Piece} (h : c.1 + c.2.wide ≤ seq.length) {x : Nat} : x ∈ slice seq c ↔ ∃ i, i < c.2.wide ∧ seq.getD (c.1 + i) 0 = x := by
  unfold slice
  rw [List.mem_iff_getElem?]
  constructor
  · rintro ⟨i, hi⟩
    rw [List.getElem?_take] at hi
    split at hi
    · rename_i h2
      rw [List.getElem?_drop] at hi
      exact ⟨i, h2, by rw [List.getD_eq_getElem?_getD, hi]; rfl⟩
    · cases hi
  · rintro ⟨i, hi, e⟩
    refine ⟨i, ?_⟩
    rw [List.getElem?_take, if_pos hi, List.getElem?_drop]
    have hl : c.1 + i < seq.length := by omega
    rw [List.getElem?_eq_getElem hl]
    rw [List.getD_eq_getElem?_getD, List.getElem?_eq_getElem hl] at e
    exact congrArg some e
theorem getD_inj {seq : List Nat} (h : seq.Nodup) {i j : Nat} (hi : i < seq.length) (hj : j < seq.length) (e : seq.getD i 0 = seq.getD j 0) : i = j := by
  rw [List.getD_eq_getElem?_getD, List.getD_eq_getElem?_getD, List.getElem?_eq_getElem hi, List.getElem?_eq_getElem hj] at e
  exact (List.getElem_inj h).mp e
theorem led_bit {seq : List Nat} (h : seq.Nodup) (w p : Nat) : (ledW seq w).testBit p = true ↔ ∃ j, j < seq.length ∧ w.testBit j = true ∧ seq.getD j 0 = p := by
  have e : ledW seq w = wordOf (nearOf seq w) := rfl
  rw [e, wordOf_bit (near_nodup h w), decide_eq_true_eq]
  unfold nearOf
  rw [List.mem_map]
  constructor
  · rintro ⟨j, hj, e⟩
    obtain ⟨h1, h2⟩ := List.mem_filter.mp hj
    exact ⟨j, List.mem_range.mp h1, h2, e⟩
  · rintro ⟨j, h1, h2, e⟩
    exact ⟨j, List.mem_filter.mpr ⟨List.mem_range.mpr h1, h2⟩, e⟩
theorem shl_bit (g f j : Nat) : (g * 2 ^ f).testBit j = (decide (f ≤ j) && g.testBit (j - f)) := by
  rw [← Nat.shiftLeft_eq, Nat.testBit_shiftLeft]
/-- what stands at a piece's places, told by its own -/
def pull (seq : List Nat) (c : Nat × Piece) (v : Nat) : Nat := wordOf ((List.range c.2.wide).filter fun i => v.testBit (seq.getD (c.1 + i) 0))
theorem pull_bit (seq : List Nat) (c : Nat × Piece) (v i : Nat) : (pull seq c v).testBit i = (decide (i < c.2.wide) && v.testBit (seq.getD (c.1 + i) 0)) := by
  unfold pull
  rw [wordOf_bit (List.nodup_range.sublist List.filter_sublist)]
  by_cases h : i < c.2.wide
  · rw [decide_eq_true h, Bool.true_and]
    cases e : v.testBit (seq.getD (c.1 + i) 0) with
    | true => exact decide_eq_true (List.mem_filter.mpr ⟨List.mem_range.mpr h, e⟩)
    | false => exact decide_eq_false fun k => by rw [(List.mem_filter.mp k).2] at e; cases e
  · rw [decide_eq_false h, Bool.false_and]
    exact decide_eq_false fun k => h (List.mem_range.mp (List.mem_filter.mp k).1)
section
variable {C : List (Nat × Piece)} {n : Nat} {seq : List Nat}
/-- the words of the room -/
abbrev ledWords (seq : List Nat) (C : List (Nat × Piece)) : List Nat := (wordsOf C).map (ledW seq)
theorem ledWords_mem {x : Nat} : x ∈ ledWords seq C ↔ ∃ c g, c ∈ C ∧ g ∈ c.2.words ∧ x = ledW seq (g * 2 ^ c.1) := by
  unfold ledWords wordsOf
  constructor
  · intro h
    obtain ⟨y, hy, rfl⟩ := List.mem_map.mp h
    obtain ⟨c, hc, hy⟩ := List.mem_flatMap.mp hy
    obtain ⟨g, hg, rfl⟩ := List.mem_map.mp hy
    exact ⟨c, g, hc, hg, rfl⟩
  · rintro ⟨c, g, hc, hg, rfl⟩
    exact List.mem_map.mpr ⟨_, List.mem_flatMap.mpr ⟨c, hc, List.mem_map.mpr ⟨g, hg, rfl⟩⟩, rfl⟩
/-- the bits of a piece's word, led -/
theorem gen_bit (b : Bld C n) (hs : seq.Perm (List.range n)) {c : Nat × Piece} (hc : c ∈ C) {g : Nat} (hg : g ∈ c.2.words) (p : Nat) :
    (ledW seq (g * 2 ^ c.1)).testBit p = true ↔ ∃ i, i < c.2.wide ∧ g.testBit i = true ∧ seq.getD (c.1 + i) 0 = p := by
  have nd : seq.Nodup := hs.nodup_iff.mpr List.nodup_range
  have ls : seq.length = n := by rw [hs.length_eq, List.length_range]
  have le := b.le.2 c hc
  have ht : c.2 ∈ tabA ++ tabB ++ tabC := List.mem_append.mpr (.inl (b.tab c hc))
  have hgw := (tab_words _ ht).2.1 g hg
  rw [led_bit nd]
  constructor
  · rintro ⟨j, hj, hw, e⟩
    rw [shl_bit, Bool.and_eq_true, decide_eq_true_eq] at hw
    refine ⟨j - c.1, bit_lt hgw hw.2, hw.2, ?_⟩
    have : c.1 + (j - c.1) = j := by omega
    rw [this]; exact e
  · rintro ⟨i, hi, hw, e⟩
    refine ⟨c.1 + i, by omega, ?_, e⟩
    rw [shl_bit, decide_eq_true (by omega), Bool.true_and]
    have : c.1 + i - c.1 = i := by omega
    rw [this]; exact hw
theorem pull_gen (b : Bld C n) (hs : seq.Perm (List.range n)) {c d : Nat × Piece} (hc : c ∈ C) (hd : d ∈ C) {g : Nat} (hg : g ∈ d.2.words) : InS c.2.words (pull seq c (ledW seq (g * 2 ^ d.1))) := by
  have nd : seq.Nodup := hs.nodup_iff.mpr List.nodup_range
  have ls : seq.length = n := by rw [hs.length_eq, List.length_range]
  have lc := b.le.2 c hc
  have ld := b.le.2 d hd
  rcases b.apart c d hc hd with e | e
  · subst e
    have ht : c.2 ∈ tabA ++ tabB ++ tabC := List.mem_append.mpr (.inl (b.tab c hc))
    have hgw := (tab_words _ ht).2.1 g hg
    have z : pull seq c (ledW seq (g * 2 ^ c.1)) = g := by
      apply bit_ext; intro i
      rw [pull_bit]
      cases e : g.testBit i with
      | true =>
        have hi := bit_lt hgw e
        rw [decide_eq_true hi, Bool.true_and]
        exact (gen_bit b hs hc hg _).mpr ⟨i, hi, e, rfl⟩
      | false =>
        cases k : (decide (i < c.2.wide) && (ledW seq (g * 2 ^ c.1)).testBit (seq.getD (c.1 + i) 0)) with
        | false => rfl
        | true =>
          rw [Bool.and_eq_true, decide_eq_true_eq] at k
          obtain ⟨j, hj, hgj, ej⟩ := (gen_bit b hs hc hg _).mp k.2
          have := getD_inj nd (by omega) (by omega) ej
          have : j = i := by omega
          rw [this, e] at hgj; cases hgj
    rw [z]; exact in_mem hg
  · have z : pull seq c (ledW seq (g * 2 ^ d.1)) = 0 := by
      apply bit_ext; intro i
      rw [pull_bit, Nat.zero_testBit]
      cases k : (decide (i < c.2.wide) && (ledW seq (g * 2 ^ d.1)).testBit (seq.getD (c.1 + i) 0)) with
      | false => rfl
      | true =>
        rw [Bool.and_eq_true, decide_eq_true_eq] at k
        obtain ⟨j, hj, hgj, ej⟩ := (gen_bit b hs hd hg _).mp k.2
        have := getD_inj nd (by omega) (by omega) ej
        omega
    rw [z]; exact in_zero _
theorem pull_in (b : Bld C n) (hs : seq.Perm (List.range n)) {c : Nat × Piece} (hc : c ∈ C) {x : Nat} (h : InS (ledWords seq C) x) : InS c.2.words (pull seq c x) := by
  have p0 : pull seq c 0 = 0 := by
    apply bit_ext; intro i
    rw [pull_bit, Nat.zero_testBit, Nat.zero_testBit, Bool.and_false]
  refine in_ind (P := fun x => InS c.2.words (pull seq c x)) (by rw [p0]; exact in_zero _) h fun w hw y hy => ?_
  obtain ⟨d, g, hd, hg, rfl⟩ := ledWords_mem.mp hw
  have e : pull seq c (y ^^^ ledW seq (g * 2 ^ d.1)) = pull seq c y ^^^ pull seq c (ledW seq (g * 2 ^ d.1)) := by
    apply bit_ext; intro i
    rw [Nat.testBit_xor, pull_bit, pull_bit, pull_bit, Nat.testBit_xor]
    cases decide (i < c.2.wide) <;> simp
  rw [e]
  exact in_xor hy (pull_gen b hs hc hd hg)
theorem and_xor (x y m : Nat) : (x ^^^ y) &&& m = (x &&& m) ^^^ (y &&& m) := by
  apply bit_ext; intro i
  simp only [Nat.testBit_and, Nat.testBit_xor]
  cases x.testBit i <;> cases y.testBit i <;> cases m.testBit i <;> rfl
theorem and_in {ws vs : List Nat} {m x : Nat} (k : ∀ w, w ∈ ws → InS vs (w &&& m)) (h : InS ws x) : InS vs (x &&& m) :=
  in_ind (P := fun x => InS vs (x &&& m)) (by rw [Nat.zero_and]; exact in_zero _) h fun w hw y hy => by rw [and_xor]; exact in_xor hy (k w hw)
theorem led_lt (b : Bld C n) (hs : seq.Perm (List.range n)) : ∀ x, x ∈ ledWords seq C → x < 2 ^ n := fun x hx => by
  obtain ⟨d, g, hd, hg, rfl⟩ := ledWords_mem.mp hx
  refine lt_of_bits fun i hi => ?_
  obtain ⟨j, hj, _, e⟩ := (gen_bit b hs hd hg _).mp hi
  have ls : seq.length = n := by rw [hs.length_eq, List.length_range]
  have ld := b.le.2 d hd
  have : seq.getD (d.1 + j) 0 ∈ seq := getD_mem (by omega) 0
  rw [e] at this
  exact List.mem_range.mp (hs.mem_iff.mp this)
/-- the lots of the pieces are the parts -/
theorem lots_parting (b : Bld C n) (hs : seq.Perm (List.range n)) {B : List Nat} (PB : Plain B) (SB : SameS B (ledWords seq C)) {L : List (Nat × LotE)} (hL : ∀ e, e ∈ L → Lot seq e.2.2.1 e.2.2.2) (hC : L.map (fun e => e.2.2.1) = C) : Parting n B (L.map fun e => e.2.2.2) := by
  have nd : seq.Nodup := hs.nodup_iff.mpr List.nodup_range
  have ls : seq.length = n := by rw [hs.length_eq, List.length_range]
  have hc : ∀ e, e ∈ L → e.2.2.1 ∈ C := fun e he => by rw [← hC]; exact List.mem_map.mpr ⟨e, he, rfl⟩
  have bl := b.le.2
  have sl : ∀ c, c ∈ C → c.1 + c.2.wide ≤ seq.length := fun c h => by rw [ls]; exact bl c h
  have ndS : ∀ e, e ∈ L → e.2.2.2.Nodup := fun e he => (hL e he).1.nodup_iff.mpr ((nd.sublist (List.drop_sublist _ _)).sublist (List.take_sublist _ _))
  have memS : ∀ e, e ∈ L → ∀ x, x ∈ e.2.2.2 ↔ ∃ i, i < e.2.2.1.2.wide ∧ seq.getD (e.2.2.1.1 + i) 0 = x := fun e he x => ((hL e he).1.mem_iff).trans (slice_mem (sl _ (hc e he)))
  have cover : (L.map fun e => e.2.2.2).flatten.Perm (List.range n) := by
    have aux : ∀ L : List (Nat × LotE), (∀ e, e ∈ L → Lot seq e.2.2.1 e.2.2.2) → (L.map fun e => e.2.2.2).flatten.Perm ((L.map fun e => e.2.2.1).map (slice seq)).flatten := by
      intro L
      induction L with
      | nil => intro _; exact List.Perm.refl _
      | cons e L ih =>
        intro h
        have a := ih fun x hx => h x (List.mem_cons_of_mem _ hx)
        have c := (h e List.mem_cons_self).1
        exact c.append a
    have z := aux L hL
    rw [hC, b.slices seq, ← ls, List.take_length] at z
    exact z.trans hs
  have lt : ∀ x, InS B x → x < 2 ^ n := fun x hx => in_lt (led_lt b hs) ((SB x).mp hx)
  refine ⟨fun S hS => ?_, fun S hS => ?_, cover, fun x hx => ?_, fun S hS T hT => ?_⟩
  · obtain ⟨e, he, rfl⟩ := List.mem_map.mp hS
    exact ((hL e he).2.and (ndS e he)).imp fun h => Nat.lt_of_le_of_ne h.1 h.2
  · obtain ⟨e, he, rfl⟩ := List.mem_map.mp hS
    have ht : e.2.2.1.2 ∈ tabA ++ tabB ++ tabC := List.mem_append.mpr (.inl (b.tab _ (hc e he)))
    have hw := (tab_words _ ht).2.2.1
    exact List.ne_nil_of_mem ((memS e he _).mpr ⟨0, hw, rfl⟩)
  · -- a word of the plain basis is within one lot
    have t := top_log (PB.pos x hx)
    have pn : x.log2 < n := bit_lt (lt x (in_mem hx)) t.1
    have pm : x.log2 ∈ (L.map fun e => e.2.2.2).flatten := cover.mem_iff.mpr (List.mem_range.mpr pn)
    obtain ⟨S, hS, pS⟩ := List.mem_flatten.mp pm
    refine ⟨S, hS, ?_⟩
    obtain ⟨e, he, rfl⟩ := List.mem_map.mp hS
    have mb := wordOf_bit (ndS e he)
    have rin : InS B (x &&& wordOf e.2.2.2) := by
      refine (SB _).mpr (and_in (ws := ledWords seq C) (fun w hw => ?_) ((SB x).mp (in_mem hx)))
      obtain ⟨d, g, hd, hg, rfl⟩ := ledWords_mem.mp hw
      rcases b.apart d e.2.2.1 hd (hc e he) with k | k
      · have z : ledW seq (g * 2 ^ d.1) &&& wordOf e.2.2.2 = ledW seq (g * 2 ^ d.1) := by
          apply bit_ext; intro i
          rw [Nat.testBit_and, mb]
          cases q : (ledW seq (g * 2 ^ d.1)).testBit i with
          | false => rfl
          | true =>
            rw [Bool.true_and]
            obtain ⟨j, hj, _, ej⟩ := (gen_bit b hs hd hg _).mp q
            exact decide_eq_true ((memS e he i).mpr ⟨j, by rw [← k]; exact hj, by rw [← k]; exact ej⟩)
        rw [z]; exact in_mem hw
      · have z : ledW seq (g * 2 ^ d.1) &&& wordOf e.2.2.2 = 0 := and_zero.mpr fun i ⟨q, r⟩ => by
          rw [mb, decide_eq_true_eq] at r
          obtain ⟨j, hj, _, ej⟩ := (gen_bit b hs hd hg _).mp q
          obtain ⟨j2, hj2, ej2⟩ := (memS e he i).mp r
          have l1 := sl d hd
          have l2 := sl _ (hc e he)
          have := getD_inj nd (by omega) (by omega) (ej.trans ej2.symm)
          omega
        rw [z]; exact in_zero _
    have eq := plain_eq PB rin (in_mem hx) fun c q hcB tc => by
      rw [Nat.testBit_and, mb]
      by_cases k : x = c
      · subst k
        have := top_uq tc t
        subst this
        rw [decide_eq_true pS, Bool.and_true]
      · rw [PB.off hcB hx (fun z => k z.symm) tc, Bool.false_and]
    intro i hi
    rw [← eq, Nat.testBit_and, Bool.and_eq_true, mb, decide_eq_true_eq] at hi
    exact hi.2
  · -- a lot does not fall
    obtain ⟨e, he, rfl⟩ := List.mem_map.mp hS
    have hcC := hc e he
    generalize hcd : e.2.2.1 = c at *
    have ndT : ((List.range n).filter T).Nodup := List.nodup_range.sublist List.filter_sublist
    have tb : ∀ i, (wordOf ((List.range n).filter T)).testBit i = (decide (i < n) && T i) := fun i => by
      rw [wordOf_bit ndT]
      by_cases h : i < n
      · rw [decide_eq_true h, Bool.true_and]
        cases q : T i with
        | true => exact decide_eq_true (List.mem_filter.mpr ⟨List.mem_range.mpr h, q⟩)
        | false => exact decide_eq_false fun k => by rw [(List.mem_filter.mp k).2] at q; cases q
      · rw [decide_eq_false h, Bool.false_and]
        exact decide_eq_false fun k => h (List.mem_range.mp (List.mem_filter.mp k).1)
    have cut : ∀ x, InS B x → InS B (x &&& wordOf ((List.range n).filter T)) := fun x hx => and_in (ws := B) (fun w hw => by
      have wl := lt w (in_mem hw)
      rcases hT w hw with k | k
      · have z : w &&& wordOf ((List.range n).filter T) = w := by
          apply bit_ext; intro i
          rw [Nat.testBit_and, tb]
          cases q : w.testBit i with
          | false => rfl
          | true => rw [decide_eq_true (bit_lt wl q), k i q]; rfl
        rw [z]; exact in_mem hw
      · have z : w &&& wordOf ((List.range n).filter T) = 0 := and_zero.mpr fun i ⟨q, r⟩ => by
          rw [tb, k i q, Bool.and_false] at r; cases r
        rw [z]; exact in_zero _) hx
    have key : ∀ g, g ∈ c.2.words → InS c.2.words (g &&& pull seq c (wordOf ((List.range n).filter T))) := fun g hg => by
      have gin : ledW seq (g * 2 ^ c.1) ∈ ledWords seq C := ledWords_mem.mpr ⟨c, g, hcC, hg, rfl⟩
      have z := pull_in b hs hcC ((SB _).mp (cut _ ((SB _).mpr (in_mem gin))))
      have eqn : pull seq c (ledW seq (g * 2 ^ c.1) &&& wordOf ((List.range n).filter T)) = g &&& pull seq c (wordOf ((List.range n).filter T)) := by
        have ht : c.2 ∈ tabA ++ tabB ++ tabC := List.mem_append.mpr (.inl (b.tab _ hcC))
        have hgw := (tab_words _ ht).2.1 g hg
        apply bit_ext; intro i
        rw [pull_bit, Nat.testBit_and, Nat.testBit_and, pull_bit]
        by_cases hi : i < c.2.wide
        · rw [decide_eq_true hi, Bool.true_and, Bool.true_and]
          have q : (ledW seq (g * 2 ^ c.1)).testBit (seq.getD (c.1 + i) 0) = g.testBit i := by
            cases q : g.testBit i with
            | true => exact (gen_bit b hs hcC hg _).mpr ⟨i, hi, q, rfl⟩
            | false =>
              cases r : (ledW seq (g * 2 ^ c.1)).testBit (seq.getD (c.1 + i) 0) with
              | false => rfl
              | true =>
                obtain ⟨j, hj, hgj, ej⟩ := (gen_bit b hs hcC hg _).mp r
                have l2 := sl c hcC
                have := getD_inj nd (by omega) (by omega) ej
                have : j = i := by omega
                rw [this, q] at hgj; cases hgj
          rw [q]
        · rw [decide_eq_false hi, Bool.false_and, Bool.false_and, Bool.and_false]
      rw [eqn] at z; exact z
    have Tlt : pull seq c (wordOf ((List.range n).filter T)) < 2 ^ c.2.wide := lt_of_bits fun i hi => by
      rw [pull_bit, Bool.and_eq_true, decide_eq_true_eq] at hi; exact hi.1
    have pT : ∀ i, i < c.2.wide → (pull seq c (wordOf ((List.range n).filter T))).testBit i = T (seq.getD (c.1 + i) 0) := fun i hi => by
      have l2 := sl c hcC
      have m : seq.getD (c.1 + i) 0 ∈ seq := getD_mem (by omega) 0
      have m' := List.mem_range.mp (hs.mem_iff.mp m)
      rw [pull_bit, decide_eq_true hi, Bool.true_and, tb, decide_eq_true m', Bool.true_and]
    rcases check_of (tab_check _ (b.tab _ hcC)) Tlt key with z | z
    · right; intro x hx
      obtain ⟨i, hi, ei⟩ := (memS e he x).mp hx
      rw [hcd] at hi ei
      rw [← ei, ← pT i hi, z, Nat.zero_testBit]
    · left; intro x hx
      obtain ⟨i, hi, ei⟩ := (memS e he x).mp hx
      rw [hcd] at hi ei
      rw [← ei, ← pT i hi, z, Nat.testBit_two_pow_sub_one, decide_eq_true hi]
end
end K7
namespace K7
open PySem PySem.Spec PyProof.Rows L2 Evl K71
theorem q_asgGo {σ : L2.St} {H : Hp} {tz : TS} {D : Ends} {te : TE} {g : TG} (h : te σ H fun x H2 => g x σ H2 fun σ2 H3 => tz D σ2 H3) : tSeq (tAsg te g) tz D σ H := h
/-- two lists of lists of numbers, compared -/
theorem neD_rows {K : PySem.W.Frag} {H : Hp} {a b : Addr} {L1 L2 : List (Addr × List Nat)} (ha : H a = some (.lst (refs L1))) (hb : H b = some (.lst (refs L2))) (h1 : ∀ e, e ∈ L1 → H e.1 = some (.lst (nvs e.2))) (h2 : ∀ e, e ∈ L2 → H e.1 = some (.lst (nvs e.2))) (e : L1.map (·.2) = L2.map (·.2)) {Q : VK} (q : Q (.bl false) H) : rNeD K (.ref a) (.ref b) H Q := by
  refine ⟨rowsD (L1.map (·.2)), rowsD (L2.map (·.2)), dp_rowsD (sq_of ha) fun z hz => sq_of (h1 z hz), dp_rowsD (sq_of hb) fun z hz => sq_of (h2 z hz), shaped_rows _, shaped_rows _, ?_⟩
  rw [e, eqv_rows]
  exact q
theorem eqD_rows {K : PySem.W.Frag} {H : Hp} {a b : Addr} {L1 L2 : List (Addr × List Nat)} (ha : H a = some (.lst (refs L1))) (hb : H b = some (.lst (refs L2))) (h1 : ∀ e, e ∈ L1 → H e.1 = some (.lst (nvs e.2))) (h2 : ∀ e, e ∈ L2 → H e.1 = some (.lst (nvs e.2))) (e : L1.map (·.2) = L2.map (·.2)) {Q : VK} (q : Q (.bl true) H) : rEqD K (.ref a) (.ref b) H Q := by
  refine ⟨rowsD (L1.map (·.2)), rowsD (L2.map (·.2)), dp_rowsD (sq_of ha) fun z hz => sq_of (h1 z hz), dp_rowsD (sq_of hb) fun z hz => sq_of (h2 z hz), shaped_rows _, shaped_rows _, ?_⟩
  rw [e, eqv_rows]
  exact q
theorem words_len {C : List (Nat × Piece)} (h : ∀ c, c ∈ C → c.2.words.length ≤ 6) : (wordsOf C).length ≤ 6 * C.length := by
  induction C with
  | nil => exact Nat.le_refl _
  | cons c C ih =>
    have h1 := h c List.mem_cons_self
    have h2 := ih fun d hd => h d (List.mem_cons_of_mem _ hd)
    show (c.2.words.map _ ++ wordsOf C).length ≤ _
    rw [List.length_append, List.length_map, List.length_cons]
    omega
section
variable {P : Program} {w : World} {K : PySem.W.Frag} {mg : Str → Option Value} {base : Heap}
def spRight : Sp := fun vs H Q _ => ∃ p, vs = [.ref p] ∧ PotAt H p ∧ ∀ H', Q (.bl true) H'
theorem ok_right {CR fR : Addr} (D : Df K mg "_law_right" s_l_right) (T : Free mg) (TR : Cl2 K mg "Room" "own_places" "own_basis" CR fR) (OI : OkM P w K mg base 6 fR ["self", "places", "words"] (spRoomInit K CR)) (OP : OkP P w K mg base CR)
    (OR : Ok P w K mg base 4 "_law_room" ["_law_pot_here", "_law_names", "_law_most"] spRoom) (OD : Ok P w K mg base 8 "_law_drawn_right" ["_law_pot_here"] spDrawn) : Ok P w K mg base 9 "_law_right" ["_law_pot_here"] spRight := by
  refine ok_mk D (fun f fd F => F.binds fun _ _ _ _ _ _ us hl => match us, hl with | [_], _ => rfl) fun f fd F => F.ok sc_l_right (fun vs H Q E h => ?_) (fun cdv A outer s H vs Q E hr h => ?_)
  · obtain ⟨p, rfl, _⟩ := h; rfl
  · obtain ⟨p, rfl, hp, q⟩ := h
    obtain ⟨fdI, bI, GI⟩ := OI.ex
    obtain ⟨f1, fd1, g1, k1, b1, kb1, G1⟩ := OP.ex
    obtain ⟨f2, fd2, g2, k2, b2, G2⟩ := OR.ex
    obtain ⟨f3, fd3, g3, k3, b3, G3⟩ := OD.ex
    refine ⟨_, pss_cons (ps_asg (pe_call G2 (hr.mono (by decide)) (by rfl) g2 k2 b2 .nil pass0 (pa_cons (pv 0) (pa_cons (pe_lst (pa_cons pe_str (pa_cons pe_str (pa_cons pe_str (pa_cons pe_str (pa_cons pe_str (pa_cons pe_str (pa_cons pe_str (pa_cons pe_str (pa_cons pe_str (pa_cons pe_str pa_nil))))))))))) (pa_cons pe_int pa_nil))))
        (pg_tup rfl (pgs_cons (pg_name (i := 1) sc_l_right.nd rfl (.inl rfl)) (pgs_cons (pg_name (i := 2) sc_l_right.nd rfl (.inl rfl)) (pgs_cons (pg_name (i := 3) sc_l_right.nd rfl (.inl rfl)) (pgs_cons (pg_name (i := 4) sc_l_right.nd rfl (.inl rfl)) pgs_nil))))))
      (pss_cons (ps_set (i := 5) sc_l_right.nd rfl (.inl rfl) (pe_callB (cr_sortedRows hr.units) (by rfl) T.sorted (by decide +kernel) (pa_cons (pe_lc (own := [("_law_name", 6), ("_law_spots", 7), ("_law_exchanges", 8)]) (tt := tYes) rfl sc_l_right.nd (pi_list (pv 3))
        (blkOk_by (N := ["_law_pot_here", "_law_places", "_law_words", "_law_lots", "_law_sequence_here", "_law_due", "_law_name", "_law_spots", "_law_exchanges", "_law_room_here", "_law_told"]) (sc := defScope s_l_right) (by decide +kernel))
        (fun _ _ _ _ _ => (show PG _ _ (gTup K 3 (gCons (gName 6) (gCons (gName 7) (gCons (gName 8) gNil)))) from pg_tup rfl (pgs_cons (pg_name (i := 6) sc_l_right.nd rfl (.inl rfl)) (pgs_cons (pg_name (i := 7) sc_l_right.nd rfl (.inl rfl)) (pgs_cons (pg_name (i := 8) sc_l_right.nd rfl (.inl rfl)) pgs_nil)))))
        (fun _ _ _ _ _ => pts_nil) (fun _ _ _ _ _ => pv 7)) pa_nil)))
      (pss_cons (ps_set (i := 9) sc_l_right.nd rfl (.inl rfl) (pe_make TR.make GI (hr.mono (by decide)) (by rfl) TR.mgC bI .nil pass0 (pa_cons (pv 1) (pa_cons (pv 2) pa_nil))))
      (pss_cons (ps_set (i := 10) sc_l_right.nd rfl (.inl rfl) (pe_call G1 (hr.mono (by decide)) (by rfl) g1 k1 b1 .nil pass0 (pa_cons (pv 9) pa_nil)))
      (pss_cons (ps_if (PW.pt (pw_or (pt_cmpR (op_neD hr.units) (pv 10) (pv 5) (nomark _)) (pw_or1 (pt_cmpR (op_neD hr.units) (pe_byNames G1 (hr.mono (by decide)) (by rfl) g1 k1 kb1 pass0 (pk_cons (pv 9) pk_nil)) (pv 5) (nomark _))))) (pss_one (ps_ret pe_bl)) pss_nil)
      (pss_cons (ps_expr (pe_bm PySem.F.plainAttrs_list PySem.F.slot_list_append PySem.F.type_list_append mt_append (pe_ix ix_list (pv 10) pe_int (fun _ _ => rfl)) (pa_cons pe_non pa_nil)))
      (pss_cons (ps_expr (pe_bm PySem.F.plainAttrs_list PySem.F.slot_list_append PySem.F.type_list_append mt_append (pv 10) (pa_cons pe_non pa_nil)))
      (pss_one (ps_ret (pe_and (pe_cmpR (op_eqD hr.units) (pe_call G1 (hr.mono (by decide)) (by rfl) g1 k1 b1 .nil pass0 (pa_cons (pv 9) pa_nil)) (pv 5) (nomark _)) (pe_one (pe_call G3 hr (by rfl) g3 k3 b3 .nil pass0 (pa_cons (pv 0) pa_nil)))))))))))), ?_⟩
    refine q_asgGo ⟨.ref p, rfl, (by show 10 ≤ sizeLine; decide), fun nm nnm => ⟨p, nm, rfl, ?_, upd_same, fun H1 r wo lo sq n seq C L bt hp1 hr1 hwo hlo aL eC hperm bl hn lC => ?_⟩⟩
    · have hpH : ∃ o, H p = some o := by obtain ⟨a, b, h, _⟩ := hp; exact ⟨_, h⟩
      obtain ⟨o, ho⟩ := hpH
      exact hp.upd (ne_of_none ho nnm)
    refine ⟨r, _, rfl, st_of hr1, rfl, _, _, rfl, _, _, rfl, _, _, rfl, _, _, rfl, rfl, ?_⟩
    obtain ⟨bn, bc⟩ := bl.le
    -- due
    refine q_asgGo ⟨.ref lo, rfl, lo, rfl, ⟨_, sq_of hlo⟩, fun dq ndq => ?_⟩
    refine lc_list (K := K) (xs := refs L) (fun i H' => Ex H1 H' ∧ H' dq = some (.lst (refs ((L.take i).map fun e => (e.2.1, e.2.2.2))))) ⟨Ex.new ndq, upd_same⟩ (fun i H' _ ⟨e, _⟩ => sq_of (e _ _ hlo)) (fun i x H' hx ⟨e, hdq⟩ => ?_) (fun H2 ⟨e2, hdq⟩ => ?_)
    · rw [List.getElem?_map] at hx
      cases ex : L[i]? with
      | none => rw [ex] at hx; cases hx
      | some y =>
        rw [ex] at hx
        obtain rfl : V.ref y.1 = x := Option.some.inj hx
        have hil : i < L.length := (List.getElem?_eq_some_iff.mp ex).1
        obtain ⟨⟨v1, v3, hy⟩, _, _⟩ := aL y (List.mem_of_getElem? ex)
        refine ⟨y.1, [v1, .ref y.2.1, v3], rfl, st_of (e _ _ hy), rfl, v1, [.ref y.2.1, v3], rfl, .ref y.2.1, [v3], rfl, v3, [], rfl, rfl, rfl, t_yes' ⟨.ref y.2.1, rfl, _, hdq, ?_, Ex.mut e ndq, ?_⟩⟩
        · rw [List.length_map, List.length_map]
          have := List.length_take_le i L
          have lL : L.length = C.length := by
            have := congrArg List.length eC
            rw [List.length_map] at this; exact this
          exact sz_lt (by omega)
        · rw [upd_same, take_snoc ex]
          unfold refs
          rw [List.map_append, List.map_append]; rfl
    have lr : (refs L).length = L.length := List.length_map ..
    rw [lr, List.take_of_length_le (Nat.le_refl _)] at hdq
    refine ⟨dq, L.map fun e => (e.2.1, e.2.2.2), rfl, sq_of hdq, fun z hz => ?_, fun D' du hperm2 hsort ndu => ?_⟩
    · obtain ⟨e, he, rfl⟩ := List.mem_map.mp hz
      exact sq_of (e2 _ _ (aL e he).2.1)
    have e3 := Ex.new (o := HO.lst (refs D')) ndu
    have E3 : Ex H1 (upd H2 du (.lst (refs D'))) := e2.trans e3
    have hdu : (upd H2 du (.lst (refs D'))) du = some (.lst (refs D')) := upd_same
    have aD : ∀ e, e ∈ D' → (upd H2 du (.lst (refs D'))) e.1 = some (.lst (nvs e.2)) := fun z hz => by
      obtain ⟨e, he, rfl⟩ := List.mem_map.mp (hperm2.mem_iff.mp hz)
      exact E3 _ _ (aL e he).2.1
    have hwo3 := E3 _ _ hwo
    have hp3 := hp1.ex E3
    have pD : (D'.map (·.2)).Perm (L.map fun e => e.2.2.2) := by
      have z := hperm2.map (·.2)
      rw [List.map_map] at z
      exact z
    clear e2 e3 E3 hdq
    generalize upd H2 du (.lst (refs D')) = H3 at *
    -- room_here
    have hww : ∀ c, c ∈ C → c.2.words.length ≤ 6 := fun c hc => (tab_words _ (List.mem_append.mpr (.inl (bl.tab c hc)))).1
    have lw : (ledWords seq C).length ≤ 48 := by
      have := words_len hww
      rw [List.length_map]; omega
    refine q_asgGo ⟨nv n, rfl, .ref wo, rfl, fun x dx nx ndx ne => ?_⟩
    have e0 : Ex H3 (upd (upd H3 dx (.own x)) x (.ins CR dx [])) := (Ex.new ndx).trans (Ex.new (by rw [upd_ne ne.symm]; exact nx))
    refine ⟨x, dx, n, wo, ledWords seq C, rfl, upd_same, e0 _ _ hwo3, hn, by omega, lw, led_lt bl hperm, fun H4 B bt4 R4 PB SB LB => ⟨rfl, ?_⟩⟩
    have e4 : Ex H3 H4 := fun b o hb => bt4 b o (ne_of_none hb nx) (e0 _ _ hb)
    have PT : Parting n B (L.map fun e => e.2.2.2) := lots_parting bl hperm PB SB (fun e he => (aL e he).2.2) eC
    have hB : ∀ b, b ∈ B → b < 2 ^ n := fun b hb => in_lt (led_lt bl hperm) ((SB b).mp (in_mem hb))
    have PR : Parting n B (partsRaw n B) := parts_parting (by omega) PB.pos hB
    have same : ∀ M, Sorted M (partsRaw n B) → M = D'.map (·.2) := fun M S => rows_one ((S.1.trans (PR.one PT)).trans pD.symm) S.2 hsort
    have lB : B.length ≤ 500 := by omega
    have hdu4 := e4 _ _ hdu
    have aD4 : ∀ e, e ∈ D' → H4 e.1 = some (.lst (nvs e.2)) := fun z hz => e4 _ _ (aD z hz)
    have hp4 := hp3.ex e4
    -- told
    refine q_asgGo ⟨.ref x, rfl, x, n, B, rfl, R4, lB, by omega, fun H5 tq M N5 S5 => ?_⟩
    obtain ⟨ntq, e5, LT, eLT, htq, aLT⟩ := N5
    refine q_when (b := false) (et_or (a := false) (b := false) (et_test fun Ha ea Qa qa => ?_) (fun _ => et_test fun Ha ea Qa qa => ?_)) (fun h => nomatch h) (fun _ H6 e6 => ?_)
    · exact ⟨.ref tq, rfl, .ref du, rfl, neD_rows (ea _ _ htq) (ea _ _ (e5 _ _ hdu4)) (fun z hz => ea _ _ (aLT z hz).2) (fun z hz => ea _ _ (e5 _ _ (aD4 z hz))) (by rw [eLT, same M S5]) (qa Ha (Ex.refl Ha))⟩
    · refine ⟨.ref x, rfl, x, n, B, rfl, R4.ex (e5.trans ea), lB, by omega, fun Hb t2 M2 N2 S2 => ?_⟩
      obtain ⟨nt2, eb, L2, eL2, ht2, aL2⟩ := N2
      exact ⟨.ref du, rfl, neD_rows ht2 (eb _ _ (ea _ _ (e5 _ _ hdu4))) (fun z hz => (aL2 z hz).2) (fun z hz => eb _ _ (ea _ _ (e5 _ _ (aD4 z hz)))) (by rw [eL2, same M2 S2]) (qa Hb eb)⟩
    -- told's lists are new
    have htq6 := e6 _ _ htq
    have neL : LT ≠ [] := fun h => by
      rw [h] at eLT
      have z := S5.1.length_eq
      have y := (PR.perm S5.1).cover.length_eq
      rw [← eLT, List.length_range] at y
      simp at y
      omega
    obtain ⟨e0', LT', eqL⟩ := List.exists_cons_of_ne_nil neL
    have he0 : e0' ∈ LT := by rw [eqL]; exact List.mem_cons_self
    have h06 := e6 _ _ (aLT e0' he0).2
    have l0 : (nvs e0'.2).length < sizeLine := by
      have hm : e0'.2 ∈ M := by rw [← eLT]; exact List.mem_map.mpr ⟨e0', he0, rfl⟩
      have P5 := PR.perm S5.1
      have z := nodup_len (m := List.range n) (part_nodup P5 hm) fun x hx => P5.cover.mem_iff.mp (List.mem_flatten.mpr ⟨_, hm, hx⟩)
      rw [List.length_range] at z
      rw [nvs_len]; exact sz_lt (by omega)
    have atI0 : atI (refs LT) (0 : Int) = some (.ref e0'.1) := by rw [eqL]; exact atI_nat (j := 0) rfl
    have ne0 : e0'.1 ≠ tq := ne_of h06 htq6 (fun h => by
      injection h with h
      rw [eqL] at h
      cases hw : e0'.2 with
      | nil => rw [hw] at h; cases h
      | cons u us =>
        rw [hw] at h
        have h : nv u :: nvs us = V.ref e0'.1 :: refs LT' := h
        injection h with h _
        cases h)
    have lLT : LT.length ≤ 6 := by
      have z : LT.map (·.2) = D'.map (·.2) := by rw [eLT, same M S5]
      have y := congrArg List.length z
      rw [List.length_map, List.length_map, hperm2.length_eq, List.length_map] at y
      have lL : L.length = C.length := by
        have := congrArg List.length eC
        rw [List.length_map] at this; exact this
      omega
    have n0 : H4 e0'.1 = none := (aLT e0' he0).1
    refine ⟨.ref tq, rfl, tq, refs LT, 0, .ref e0'.1, rfl, rfl, sq_of htq6, atI0, .inl ⟨rfl, _, sq_of h06⟩, e0'.1, nvs e0'.2, .non, rfl, rfl, h06, l0, ?_⟩
    have htq7 : (upd H6 e0'.1 (.lst (nvs e0'.2 ++ [.non]))) tq = some (.lst (refs LT)) := by rw [upd_ne ne0.symm]; exact htq6
    refine ⟨.ref tq, rfl, .inl ⟨rfl, _, sq_of htq7⟩, tq, refs LT, .non, rfl, rfl, htq7, by rw [List.length_map]; exact sz_lt (by omega), ?_⟩
    have E8 : Ex H4 (upd (upd H6 e0'.1 (.lst (nvs e0'.2 ++ [.non]))) tq (.lst (refs LT ++ [.non]))) := Ex.mut (Ex.mut (e5.trans e6) n0) ntq
    generalize upd (upd H6 e0'.1 (.lst (nvs e0'.2 ++ [.non]))) tq (.lst (refs LT ++ [.non])) = H8 at *
    refine ⟨.ref x, rfl, x, n, B, rfl, R4.ex E8, lB, by omega, fun H9 t3 M3 N3 S3 => ?_⟩
    obtain ⟨nt3, e9, L3, eL3, ht3, aL3⟩ := N3
    exact ⟨.ref du, rfl, eqD_rows ht3 (e9 _ _ (E8 _ _ hdu4)) (fun z hz => (aL3 z hz).2) (fun z hz => e9 _ _ (E8 _ _ (aD4 z hz))) (by rw [eL3, same M3 S3]) ⟨true, rfl, iteT ⟨.ref p, rfl, p, rfl, hp4.ex (E8.trans e9), q⟩⟩⟩
def spLaw (K : PySem.W.Frag) : Sp := fun vs H Q _ => ∃ (a : Addr) (ns : List Int), vs = [.ref a] ∧ SqL K H a (ns.map V.int) ∧ ns.length ≤ 63 ∧ ∀ H', Q (.bl true) H'
theorem fn_law {f : Addr} {fd : FuncData} (F : Fun K "law" "law" s_law f fd) (OT : Ok P w K mg base 1 "_law_pot" ["_law_script", "_law_k"] (spPot K)) (OR : Ok P w K mg base 9 "_law_right" ["_law_pot_here"] spRight) : FnOk P w K mg base CX0 10 f fd ["_law_script"] (spLaw K) := by
  refine F.ok sc_law (fun vs H Q E h => ?_) (fun cdv A outer s H vs Q E hr h => ?_)
  · obtain ⟨a, ns, rfl, _⟩ := h; rfl
  · obtain ⟨a, ns, rfl, hA, hl, q⟩ := h
    obtain ⟨f1, fd1, g1, k1, b1, G1⟩ := OT.ex
    obtain ⟨f2, fd2, g2, k2, b2, G2⟩ := OR.ex
    refine ⟨_, pss_one (ps_ret (pe_call G2 hr (by rfl) g2 k2 b2 .nil pass0 (pa_cons (pe_call G1 (hr.mono (by decide)) (by rfl) g1 k1 b1 .nil pass0 (pa_cons (pv 0) (pa_cons pe_int pa_nil))) pa_nil))), ?_⟩
    exact ⟨.ref a, rfl, a, ns, rfl, hA, hl, fun H1 p np e1 hp => ⟨p, rfl, hp, q⟩⟩
end
end K7
namespace K7
open PySem PySem.Spec PyProof.Rows L2 Evl K71
/-! ### what the top has written -/
section
variable {K : PySem.W.Frag} {h : Heap} {mg : Str → Option Value}
theorem df_mk (X : K.In h) (G : h.Ns mainGlobals mg) {x : Str} {st : Stmt} {f : Addr} {oc : Value} {od an : Option Addr} {osl : Array (Option Value)} {kV doc pm cdv ct : Value} (a : PySem.W.nsIn K mainGlobals x = some (some (.ref f)))
    (l : K.lookup f = some ⟨oc, od, .func (PySem.W.fnOf x x (defArgs st) (defBody st) (defScope st) .none kV doc pm an cdv ct), osl⟩) (c : PySem.W.codeIn K cdv x = true) (k : PySem.W.keepIn K (.ref f) = true) : Df K mg x st := ⟨f, _, PySem.W.mg_of X G a, fun_mk l c k⟩
theorem in_mk {qual : Str} {st : Stmt} {f : Addr} {oc : Value} {od an : Option Addr} {osl : Array (Option Value)} {kV doc pm cdv ct : Value}
    (l : K.lookup f = some ⟨oc, od, .func (PySem.W.fnOf "__init__" qual (defArgs st) (defBody st) (defScope st) .none kV doc pm an cdv ct), osl⟩) (c : PySem.W.codeIn K cdv qual = true) (k : PySem.W.keepIn K (.ref f) = true) : ∃ fd, Fun K "__init__" qual st f fd := ⟨_, fun_mk l c k⟩
theorem cl_mk (X : K.In h) (G : h.Ns mainGlobals mg) {name x y : Str} {C f : Addr} (aC : PySem.W.nsIn K mainGlobals name = some (some (.ref C))) (i : PySem.W.findIn K (.ref C) "__init__" = some (some (.ref f))) (fn : PySem.W.isFn K (.ref f) = true)
    (pg : PySem.W.plainGet K C Str.empty = true) (hd : PySem.W.hasDictIn K C = true) (po : PySem.W.plainOver K C = true) (sa : PySem.W.findIn K (.ref C) "__setattr__" = some (some (.builtin "object.__setattr__"))) (mk : PySem.W.makesIn K C = true) (kc : PySem.W.keepIn K (.ref C) = true)
    (nx : PySem.W.findIn K (.ref C) x = some none) (ny : PySem.W.findIn K (.ref C) y = some none) : Cl2 K mg name x y C f := ⟨⟨pg, hd, po, sa⟩, nx, ny, PySem.W.mg_of X G aC, ⟨mk, i, fn, kc⟩⟩
theorem int_mk (X : K.In h) (G : h.Ns mainGlobals mg) {x : Str} {i : Int} {t : Tok} (a : PySem.W.nsIn K mainGlobals x = some (some (.int i t))) : ∃ t, mg x = some (.int i t) := ⟨t, PySem.W.mg_of X G a⟩
theorem kit_same {C : Addr} : PySem.W.kitOne K (.ref C) (.ref C) = some true := by
  unfold PySem.W.kitOne
  rw [if_pos (beq_self_eq_true _)]
theorem int_mro : PySem.fastBuiltinMro "int" = some [.type "int", .type "object"] := by decide +kernel
theorem kit_int {C : Addr} {oc : Value} {od : Option Addr} {cd : ClassData} {sl : Array (Option Value)} (l : K.lookup C = some ⟨oc, od, .cls cd, sl⟩) (t : PySem.W.typeIn K (.ref C) = some (.type "type")) : PySem.W.kitOne K (.type "int") (.ref C) = some false := by
  unfold PySem.W.kitOne
  rw [if_neg (by rw [show (Value.type "int" == Value.ref C) = false from rfl]; exact Bool.false_ne_true)]
  unfold PySem.W.kitCls
  have e : ((PySem.W.clsIn K C).isSome && PySem.W.typeIn K (.ref C) == some (.type "type")) = true := by
    have c : PySem.W.clsIn K C = some cd := by unfold PySem.W.clsIn; rw [l]
    rw [c, t]; rfl
  show (if ((PySem.W.clsIn K C).isSome && PySem.W.typeIn K (.ref C) == some (.type "type")) = true then PySem.W.subIn K (.type "int") (.ref C) else none) = _
  rw [if_pos e]
  unfold PySem.W.subIn
  show (PySem.fastBuiltinMro "int").map _ = _
  rw [int_mro]; rfl
theorem all_mk {l : PySem.W.OpenLaw} {w : World} {fa CT fT CR fR : Addr} (X : K.In h) (G : h.Ns mainGlobals mg) (hfa : mg "law" = some (.ref fa))
    (tC : Cl2 K mg "Told" "told_places" "told_basis" CT fT) (tF : ∃ fd, Fun K "__init__" "Told.__init__" s_Told_init fT fd) (rC : Cl2 K mg "Room" "own_places" "own_basis" CR fR) (rF : ∃ fd, Fun K "__init__" "Room.__init__" s_Room_init fR fd)
    (isI : PySem.W.kitOne K (.type "int") (.ref CT) = some false) (R : RoomK K CR) (gP : ∃ t, mg "MOST_PLACES" = some (.int 24 t)) (gM : ∃ t, mg "MOST_WORDS" = some (.int 48 t)) (T : Free mg)
    (d_is_integer : Df K mg "is_integer" s_is_integer)
    (d_is_count : Df K mg "is_count" s_is_count)
    (d_is_list : Df K mg "is_list" s_is_list)
    (d_is_places : Df K mg "is_places" s_is_places)
    (d_want_places : Df K mg "want_places" s_want_places)
    (d_left_of : Df K mg "left_of" s_left_of)
    (d_with_word : Df K mg "with_word" s_with_word)
    (d_plain_basis : Df K mg "plain_basis" s_plain_basis)
    (d_told_room : Df K mg "told_room" s_told_room)
    (d_want_room : Df K mg "want_room" s_want_room)
    (d_spots_of : Df K mg "spots_of" s_spots_of)
    (d_all_on : Df K mg "all_on" s_all_on)
    (d_masks_of : Df K mg "masks_of" s_masks_of)
    (d_parts_of : Df K mg "parts_of" s_parts_of)
    (d_parts : Df K mg "parts" s_parts)
    (d_l_pot : Df K mg "_law_pot" s_l_pot)
    (d_l_draw : Df K mg "_law_draw" s_l_draw)
    (d_l_pick : Df K mg "_law_pick" s_l_pick)
    (d_l_word : Df K mg "_law_word" s_l_word)
    (d_l_span : Df K mg "_law_span" s_l_span)
    (d_l_led : Df K mg "_law_led" s_l_led)
    (d_l_sequence : Df K mg "_law_sequence" s_l_sequence)
    (d_l_pieces : Df K mg "_law_pieces" s_l_pieces)
    (d_l_beside : Df K mg "_law_beside" s_l_beside)
    (d_l_room : Df K mg "_law_room" s_l_room)
    (d_l_free : Df K mg "_law_free" s_l_free)
    (d_l_within : Df K mg "_law_within" s_l_within)
    (d_l_drawn_right : Df K mg "_law_drawn_right" s_l_drawn_right)
    (d_l_right : Df K mg "_law_right" s_l_right)
    (d_law : Df K mg "law" s_law) :
    ∃ fd : FuncData, (∀ (s : Shared) (v : Value), BindsTo s fd ⟨[v], []⟩ [("_law_script", v)]) ∧ ∀ base : Heap, K.In base → base.Ns mainGlobals mg → FnOk l.prog w K mg base CX0 10 fa fd ["_law_script"] (spLaw K) := by
  obtain ⟨f, fd, g, F⟩ := d_law.ex
  have e := hfa.symm.trans g
  cases e
  obtain ⟨fdT, FT⟩ := tF
  obtain ⟨fdR, FR⟩ := rF
  refine ⟨fd, fun s v => ?_, fun base _ _ => ?_⟩
  · obtain ⟨oc, od, kV, doc, pm, an, cdv, ct, osl, rfl, lk, hcd⟩ := F.ex
    exact .of_eq rfl
  · have o1 := ok_is_integer (P := l.prog) (w := w) (base := base) d_is_integer T
    have o2 := ok_is_count d_is_count o1
    have o3 := ok_is_places d_is_places gP o2
    have o4 := ok_want_places d_want_places o3
    have o5 := ok_is_list (P := l.prog) (w := w) (base := base) d_is_list T
    have o6 := ok_left_of (P := l.prog) (w := w) (base := base) d_left_of T
    have o7 := ok_with_word d_with_word T o6
    have o8 := ok_plain_basis d_plain_basis o7
    have o9 := ok_Told_init (P := l.prog) (w := w) (base := base) FT tC
    have o10 := ok_told_room d_told_room T tC isI gM o9 o8 o4 o5 o2
    have o11 := ok_Room_init FR rC tC o10
    have o12 := ok_want_room (P := l.prog) (w := w) (base := base) d_want_room T rC R
    have o13 := ok_spots_of (P := l.prog) (w := w) (base := base) d_spots_of T gP
    have o14 := ok_all_on (P := l.prog) (w := w) (base := base) d_all_on
    have o15 := ok_masks_of (P := l.prog) (w := w) (base := base) d_masks_of
    have o16 := ok_parts_of d_parts_of T o15 o13 o14
    have o17 := ok_parts d_parts rC o12 o16
    have q1 := ok_pot (P := l.prog) (w := w) (base := base) d_l_pot T
    have q2 := ok_draw (P := l.prog) (w := w) (base := base) d_l_draw T
    have q3 := ok_pick d_l_pick T q2
    have q4 := ok_word (P := l.prog) (w := w) (base := base) d_l_word T
    have q5 := ok_led d_l_led T q4
    have q6 := ok_free (P := l.prog) (w := w) (base := base) d_l_free T
    have q7 := ok_within d_l_within q4 q6
    have q8 := ok_span (P := l.prog) (w := w) (base := base) d_l_span T
    have q9 := ok_sequence d_l_sequence T q2
    have q10 := ok_pieces (P := l.prog) (w := w) (base := base) d_l_pieces
    have q11 := ok_beside d_l_beside T q10 q3
    have q12 := ok_room d_l_room T q11 q9 q5
    have q13 := ok_drawn d_l_drawn_right T rC o11 o17 q2 q8 q6 q7
    have q14 := ok_right d_l_right T rC o11 o17 q12 q13
    exact fn_law F q1 q14
end
end K7
section
open PySem PySem.W PyProof.Rows
set_option maxHeartbeats 0
open_top head for PySem.Challenge.rw_owncontraries_k71_whole_parts_of_rooms
end
open PySem PySem.W PyProof.Rows in
set_option maxRecDepth 100000 in
set_option maxHeartbeats 0 in
theorem PySem.Challenge.cw_owncontraries_k71_whole_parts_of_rooms_holds : PySem.Challenge.rw_owncontraries_k71_whole_parts_of_rooms.Holds :=
  head (by
    k_fill
    refine L2.walk_of (l := PySem.Challenge.rw_owncontraries_k71_whole_parts_of_rooms) (n := 63) (k := 10) (x := "_law_script") (CX := fun _ => L2.CX0) (sp := fun w => K7.spLaw _) rfl (by decide) rfl ⟨rfl, by decide, by decide⟩ (fun w h Y => PySem.W.kIn_of Y) ?F (fun _ _ a ns hl _ hS => ⟨a, ns, rfl, hS, hl, fun _ => rfl⟩) (fun _ _ _ _ _ h => h)
    case F =>
      intro w mg fa h KX G hmg
      refine' K7.all_mk KX G hmg ?tC ?tF ?rC ?rF ?isI ?R ?gP ?gM ?fr ?d_is_integer ?d_is_count ?d_is_list ?d_is_places ?d_want_places ?d_left_of ?d_with_word ?d_plain_basis ?d_told_room ?d_want_room ?d_spots_of ?d_all_on ?d_masks_of ?d_parts_of ?d_parts ?d_l_pot ?d_l_draw ?d_l_pick ?d_l_word ?d_l_span ?d_l_led ?d_l_sequence ?d_l_pieces ?d_l_beside ?d_l_room ?d_l_free ?d_l_within ?d_l_drawn_right ?d_l_right ?d_law
      (case tC =>
        (refine' K7.cl_mk KX G ?aC ?i ?fn ?pg ?hd ?po ?sa ?mk ?kc ?nx ?ny
         (case aC => k_is); (case i => k_is); (case fn => k_is); (case pg => k_is); (case hd => k_is); (case po => k_is); (case sa => k_is); (case mk => k_is); (case kc => k_is); (case nx => k_is); (case ny => k_is)))
      (case tF =>
        (refine' K7.in_mk ?l ?c ?k
         (case l => k_is); (case c => k_is); (case k => k_is)))
      (case rC =>
        (refine' K7.cl_mk KX G ?aC ?i ?fn ?pg ?hd ?po ?sa ?mk ?kc ?nx ?ny
         (case aC => k_is); (case i => k_is); (case fn => k_is); (case pg => k_is); (case hd => k_is); (case po => k_is); (case sa => k_is); (case mk => k_is); (case kc => k_is); (case nx => k_is); (case ny => k_is)))
      (case rF =>
        (refine' K7.in_mk ?l ?c ?k
         (case l => k_is); (case c => k_is); (case k => k_is)))
      (case isI => (refine' K7.kit_int ?l ?t; (case l => k_is); (case t => k_is)))
      (case R =>
        (refine' ⟨?ha, ?hn, ?htk, ?hm, K7.kit_same⟩
         (case ha => k_is); (case hn => k_is); (case htk => k_is); (case hm => k_is)))
      (case gP => (refine' K7.int_mk KX G ?a; (case a => k_is)))
      (case gM => (refine' K7.int_mk KX G ?a; (case a => k_is)))
      (case fr =>
        (refine' ⟨PySem.W.mg_none_of KX G ?z_len, PySem.W.mg_none_of KX G ?z_sum, PySem.W.mg_none_of KX G ?z_sorted, PySem.W.mg_none_of KX G ?z_range, PySem.W.mg_none_of KX G ?z_min, PySem.W.mg_none_of KX G ?z_max, PySem.W.mg_none_of KX G ?z_abs, PySem.W.mg_none_of KX G ?z_int, PySem.W.mg_none_of KX G ?z_divmod, PySem.W.mg_none_of KX G ?z_enumerate, PySem.W.mg_none_of KX G ?z_isinstance, PySem.W.mg_none_of KX G ?z_list, PySem.W.mg_none_of KX G ?z_tuple, PySem.W.mg_none_of KX G ?z_bool⟩
         (case z_len => k_is); (case z_sum => k_is); (case z_sorted => k_is); (case z_range => k_is); (case z_min => k_is); (case z_max => k_is); (case z_abs => k_is); (case z_int => k_is); (case z_divmod => k_is); (case z_enumerate => k_is); (case z_isinstance => k_is); (case z_list => k_is); (case z_tuple => k_is); (case z_bool => k_is)))
      (case d_is_integer => (refine' K7.df_mk KX G ?a ?l ?c ?k; (case a => k_is); (case l => k_is); (case c => k_is); (case k => k_is)))
      (case d_is_count => (refine' K7.df_mk KX G ?a ?l ?c ?k; (case a => k_is); (case l => k_is); (case c => k_is); (case k => k_is)))
      (case d_is_list => (refine' K7.df_mk KX G ?a ?l ?c ?k; (case a => k_is); (case l => k_is); (case c => k_is); (case k => k_is)))
      (case d_is_places => (refine' K7.df_mk KX G ?a ?l ?c ?k; (case a => k_is); (case l => k_is); (case c => k_is); (case k => k_is)))
      (case d_want_places => (refine' K7.df_mk KX G ?a ?l ?c ?k; (case a => k_is); (case l => k_is); (case c => k_is); (case k => k_is)))
      (case d_left_of => (refine' K7.df_mk KX G ?a ?l ?c ?k; (case a => k_is); (case l => k_is); (case c => k_is); (case k => k_is)))
      (case d_with_word => (refine' K7.df_mk KX G ?a ?l ?c ?k; (case a => k_is); (case l => k_is); (case c => k_is); (case k => k_is)))
      (case d_plain_basis => (refine' K7.df_mk KX G ?a ?l ?c ?k; (case a => k_is); (case l => k_is); (case c => k_is); (case k => k_is)))
      (case d_told_room => (refine' K7.df_mk KX G ?a ?l ?c ?k; (case a => k_is); (case l => k_is); (case c => k_is); (case k => k_is)))
      (case d_want_room => (refine' K7.df_mk KX G ?a ?l ?c ?k; (case a => k_is); (case l => k_is); (case c => k_is); (case k => k_is)))
      (case d_spots_of => (refine' K7.df_mk KX G ?a ?l ?c ?k; (case a => k_is); (case l => k_is); (case c => k_is); (case k => k_is)))
      (case d_all_on => (refine' K7.df_mk KX G ?a ?l ?c ?k; (case a => k_is); (case l => k_is); (case c => k_is); (case k => k_is)))
      (case d_masks_of => (refine' K7.df_mk KX G ?a ?l ?c ?k; (case a => k_is); (case l => k_is); (case c => k_is); (case k => k_is)))
      (case d_parts_of => (refine' K7.df_mk KX G ?a ?l ?c ?k; (case a => k_is); (case l => k_is); (case c => k_is); (case k => k_is)))
      (case d_parts => (refine' K7.df_mk KX G ?a ?l ?c ?k; (case a => k_is); (case l => k_is); (case c => k_is); (case k => k_is)))
      (case d_l_pot => (refine' K7.df_mk KX G ?a ?l ?c ?k; (case a => k_is); (case l => k_is); (case c => k_is); (case k => k_is)))
      (case d_l_draw => (refine' K7.df_mk KX G ?a ?l ?c ?k; (case a => k_is); (case l => k_is); (case c => k_is); (case k => k_is)))
      (case d_l_pick => (refine' K7.df_mk KX G ?a ?l ?c ?k; (case a => k_is); (case l => k_is); (case c => k_is); (case k => k_is)))
      (case d_l_word => (refine' K7.df_mk KX G ?a ?l ?c ?k; (case a => k_is); (case l => k_is); (case c => k_is); (case k => k_is)))
      (case d_l_span => (refine' K7.df_mk KX G ?a ?l ?c ?k; (case a => k_is); (case l => k_is); (case c => k_is); (case k => k_is)))
      (case d_l_led => (refine' K7.df_mk KX G ?a ?l ?c ?k; (case a => k_is); (case l => k_is); (case c => k_is); (case k => k_is)))
      (case d_l_sequence => (refine' K7.df_mk KX G ?a ?l ?c ?k; (case a => k_is); (case l => k_is); (case c => k_is); (case k => k_is)))
      (case d_l_pieces => (refine' K7.df_mk KX G ?a ?l ?c ?k; (case a => k_is); (case l => k_is); (case c => k_is); (case k => k_is)))
      (case d_l_beside => (refine' K7.df_mk KX G ?a ?l ?c ?k; (case a => k_is); (case l => k_is); (case c => k_is); (case k => k_is)))
      (case d_l_room => (refine' K7.df_mk KX G ?a ?l ?c ?k; (case a => k_is); (case l => k_is); (case c => k_is); (case k => k_is)))
      (case d_l_free => (refine' K7.df_mk KX G ?a ?l ?c ?k; (case a => k_is); (case l => k_is); (case c => k_is); (case k => k_is)))
      (case d_l_within => (refine' K7.df_mk KX G ?a ?l ?c ?k; (case a => k_is); (case l => k_is); (case c => k_is); (case k => k_is)))
      (case d_l_drawn_right => (refine' K7.df_mk KX G ?a ?l ?c ?k; (case a => k_is); (case l => k_is); (case c => k_is); (case k => k_is)))
      (case d_l_right => (refine' K7.df_mk KX G ?a ?l ?c ?k; (case a => k_is); (case l => k_is); (case c => k_is); (case k => k_is)))
      (case d_law => (refine' K7.df_mk KX G ?a ?l ?c ?k; (case a => k_is); (case l => k_is); (case c => k_is); (case k => k_is))))
