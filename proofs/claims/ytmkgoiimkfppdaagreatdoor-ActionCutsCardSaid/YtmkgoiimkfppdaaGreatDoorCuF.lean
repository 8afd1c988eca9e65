/- ActionCuts of boathouse/action: for all a, cut, which the law's function returns true and leaves its arguments alone; no condition. The machine side: an abstract interpreter of the model's code, proved sound once, and the functions that it comes to, printed and checked; the plain side: the form check, the writer and the parser each exact for whatever they are handed, that what is written is read again and that no text that is taken goes on. -/
import Derived.Test.YtmkgoiimkfppdaaGreatDoorCuE
/-
  PLAIN LAWS: runes. What utf.Rune, First, Valid come to.
-/
set_option maxRecDepth 100000
set_option linter.unusedVariables false
set_option linter.unusedSimpArgs false
namespace Go.AI
open Go.Proofs

def mskN : Nat → Int
  | 1 => 128
  | 2 => 224
  | 3 => 240
  | _ => 248
def headN : Nat → Int
  | 1 => 0
  | 2 => 192
  | 3 => 224
  | _ => 240
def leastN : Nat → Int
  | 1 => 0
  | 2 => 128
  | 3 => 2048
  | _ => 65536
/-- the bytes that go on -/
def innerP : Nat → Int → LB → Option Int
  | 0, r, _ => some r
  | _ + 1, _, [] => none
  | m + 1, r, c :: l => bif ine (wand .u8 (c.toNat : Int) 192) 128 then none else innerP m (wor .i64 (wshl .i64 r 6) (wcv .i64 (wand .u8 (c.toNat : Int) 63))) l
def tryP (n : Nat) (c : UInt8) (l : LB) : Int × Int :=
  bif Nat.ble n (l.length + 1) then (match innerP (n - 1) (wandn .i64 (wcv .i64 (c.toNat : Int)) (mskN n)) l with
    | none => (0, 0)
    | some r => bif ilt r (leastN n) then (0, 0) else (bif mayB r then (r, (n : Int)) else (0, 0))) else (0, 0)
def fitsP (n : Nat) (c : UInt8) : Bool := !(ine (wand .i64 (wcv .i64 (c.toNat : Int)) (mskN n)) (headN n))
/-- the rune at a text's begin, and how many bytes it has -/
def runeP : LB → Int × Int
  | [] => (0, 0)
  | c :: l => bif fitsP 1 c then tryP 1 c l else (bif fitsP 2 c then tryP 2 c l else (bif fitsP 3 c then tryP 3 c l else (bif fitsP 4 c then tryP 4 c l else (0, 0))))

theorem f166 {α : Type} (k : Nat) (r : Int) (K : Bool → Option α) : f166a k r K = K (mayB r) := by
  unfold f166a T166a mayB
  simp only [ige, ile, ilt, igt, ge_iff_le, gt_iff_lt]
  by_cases h0 : 0 ≤ r
  · by_cases h1 : r ≤ 1114111
    · by_cases h2 : r < 55296 <;> simp [h0, h1, h2]
    · simp [h0, h1]
  · simp [h0]

theorem inner_run {α : Type} (k m n : Nat) (hn : 1 ≤ n) (hn4 : n ≤ 4) (hm : mskN n = toI (lget (h156a_0 n) 0 .unk)) (hl : leastN n = toI (lget (h156a_0 n) 2 .unk)) (x : LB) (at' : Int) (K : Int → Int → Option α) :
    ∀ (j : Nat) (f : Nat) (pre l : LB) (r : Int), x = pre ++ l → at' + n = pre.length + j → j ≤ l.length → j < f → x.length < 9223372036854775800 → 0 ≤ at' →
      L156al1 k K n x at' f r (pre.length : Int) = (match innerP j r l with
        | none => K 0 0
        | some r => bif ilt r (leastN n) then K 0 0 else (bif mayB r then K r (n : Int) else K 0 0)) := by
  intro j
  induction j with
  | zero =>
    intro f pre l r hx ha hj hf hb h0
    obtain ⟨f, rfl⟩ : ∃ g, f = g + 1 := ⟨f - 1, by omega⟩
    simp only [L156al1, T156al1, innerP]
    have hbl : pre.length ≤ x.length := by rw [hx]; simp
    have e : wadd .i64 at' (n : Int) = at' + n := wadd_in (by omega) (by omega)
    rw [e, ha]
    have e2 : ilt (pre.length : Int) ((pre.length : Int) + (0 : Nat)) = false := by simp [ilt]
    rw [e2, cond_false, ← hl]
    simp only [f166]
    cases ilt r (leastN n) <;> cases mayB r <;> rfl
  | succ j ih =>
    intro f pre l r hx ha hj hf hb h0
    obtain ⟨f, rfl⟩ : ∃ g, f = g + 1 := ⟨f - 1, by omega⟩
    cases l with
    | nil => simp at hj
    | cons c l =>
      simp only [L156al1, T156al1, innerP]
      have hbl : pre.length < x.length := by rw [hx]; simp
      have hxl : x.length = pre.length + (c :: l).length := by rw [hx]; simp
      have e : wadd .i64 at' (n : Int) = at' + n := wadd_in (by omega) (by omega)
      have e2 : ilt (pre.length : Int) (at' + n) = true := by simp [ilt]; omega
      have e3 : ilt (pre.length : Int) (slen x) = true := by rw [hx]; exact ilt_pre' _ _ _
      have e4 : sat x (pre.length : Int) = (c.toNat : Int) := by rw [hx]; exact sat_pre _ _ _
      rw [e, e2, e3, e4, ile_pre, wadd_pre pre c (by omega)]
      simp only [cond_true]
      cases h : ine (wand .u8 (c.toNat : Int) 192) 128
      · simp only [cond_false]
        exact ih f (pre ++ [c]) l _ (by rw [hx, app_snoc]) (by simp; omega) (by simpa using hj) (by omega) hb h0
      · simp only [cond_true]

theorem try_run {α : Type} (k : Nat) (hk : 6 ≤ k) (n : Nat) (hn : 1 ≤ n) (hn4 : n ≤ 4) (hm : mskN n = toI (lget (h156a_0 n) 0 .unk)) (hh : headN n = toI (lget (h156a_0 n) 1 .unk)) (hl : leastN n = toI (lget (h156a_0 n) 2 .unk))
    (pre : LB) (c : UInt8) (l : LB) (hb : (pre ++ c :: l).length < 9223372036854775800) (K : Int → Int → Option α) (f : Nat) :
    L156al0 k K (pre ++ c :: l) (pre.length : Int) (f + 1) (n : Int) = bif fitsP n c then K (tryP n c l).1 (tryP n c l).2 else L156al0 k K (pre ++ c :: l) (pre.length : Int) f ((n + 1 : Nat) : Int) := by
  have e1 : ilt (n : Int) 5 = true := by simp [ilt]; omega
  have e2 : ile 0 (n : Int) = true := by simp [ile]
  have e3 : ieq (n : Int) 0 = false := by simp [ieq]; omega
  have e5 : wadd .i64 (n : Int) 1 = ((n + 1 : Nat) : Int) := by rw [wadd_in (by omega) (by omega)]; simp
  have hlen : (pre ++ c :: l).length = pre.length + (l.length + 1) := by simp
  have e6 : wsub .i64 (slen (pre ++ c :: l)) (pre.length : Int) = ((l.length + 1 : Nat) : Int) := by
    rw [wsub_in (by simp [slen]; omega) (by simp only [slen]; omega)]; simp only [slen, hlen]; omega
  simp only [L156al0, T156al0, e1, e2, e3, ile_pre, ilt_pre', sat_pre, cond_true, cond_false, ← hm, ← hh, e5, e6]
  unfold fitsP
  cases hc : ine (wand .i64 (wcv .i64 (c.toNat : Int)) (mskN n)) (headN n)
  · simp only [Bool.not_false, cond_true, cond_false]
    unfold tryP
    cases hg : Nat.ble n (l.length + 1)
    · have : igt (n : Int) ((l.length + 1 : Nat) : Int) = true := by
        have : ¬ n ≤ l.length + 1 := fun h => by rw [Nat.ble_eq_true_of_le h] at hg; cases hg
        simp [igt]; omega
      rw [this]; rfl
    · have hg' := Nat.le_of_ble_eq_true hg
      have : igt (n : Int) ((l.length + 1 : Nat) : Int) = false := by simp [igt]; omega
      rw [this, wadd_pre pre c (by rw [hlen] at hb; omega)]
      simp only [cond_true, cond_false]
      rw [inner_run k k n hn hn4 hm hl (pre ++ c :: l) (pre.length : Int) K (n - 1) k (pre ++ [c]) l _ (by rw [app_snoc]) (by simp; omega) (by omega) (by omega) hb (by omega)]
      cases innerP (n - 1) _ l with
      | none => rfl
      | some r => dsimp only; cases ilt r (leastN n) <;> cases mayB r <;> rfl
  · simp only [Bool.not_true, cond_true, cond_false]

theorem L156_0 {α : Type} (k g : Nat) (x : LB) (at' : Int) (K : Int → Int → Option α) : L156al0 k K x at' (g + 1) 0 = L156al0 k K x at' g 1 := by
  have e1 : ilt 0 5 = true := rfl
  have e2 : ile 0 0 = true := rfl
  have e3 : ieq 0 0 = true := rfl
  have e4 : wadd .i64 0 1 = 1 := rfl
  simp only [L156al0, T156al0, e1, e2, e3, e4, cond_true]
theorem L156_5 {α : Type} (k g : Nat) (x : LB) (at' : Int) (K : Int → Int → Option α) : L156al0 k K x at' (g + 1) ((4 + 1 : Nat) : Int) = K 0 0 := by
  have e1 : ilt ((4 + 1 : Nat) : Int) 5 = false := rfl
  simp only [L156al0, T156al0, e1, cond_false]
theorem f156 {α : Type} (k : Nat) (hk : 6 ≤ k) (pre l : LB) (hb : (pre ++ l).length < 9223372036854775800) (K : Int → Int → Option α) : f156a k (pre ++ l) (pre.length : Int) K = K (runeP l).1 (runeP l).2 := by
  have e0 : ilt (pre.length : Int) 0 = false := by simp [ilt]
  unfold f156a T156a
  rw [e0, cond_false]
  cases l with
  | nil =>
    have : ige (pre.length : Int) (slen (pre ++ [])) = true := by simp [ige, slen]
    rw [this]; rfl
  | cons c l =>
    have : ige (pre.length : Int) (slen (pre ++ c :: l)) = false := by simp [ige, slen]; omega
    rw [this, cond_false]
    simp only [f165a, T165a]
    obtain ⟨g1, e1⟩ : ∃ g, k = g + 1 := ⟨k - 1, by omega⟩
    obtain ⟨g2, e2⟩ : ∃ g, g1 = g + 1 := ⟨g1 - 1, by omega⟩
    obtain ⟨g3, e3⟩ : ∃ g, g2 = g + 1 := ⟨g2 - 1, by omega⟩
    obtain ⟨g4, e4⟩ : ∃ g, g3 = g + 1 := ⟨g3 - 1, by omega⟩
    obtain ⟨g5, e5⟩ : ∃ g, g4 = g + 1 := ⟨g4 - 1, by omega⟩
    obtain ⟨g6, e6⟩ : ∃ g, g5 = g + 1 := ⟨g5 - 1, by omega⟩
    have q0 := L156_0 k g1 (pre ++ c :: l) (pre.length : Int) K
    have q1 := try_run k hk 1 (by omega) (by omega) rfl rfl rfl pre c l hb K g2
    have q2 := try_run k hk 2 (by omega) (by omega) rfl rfl rfl pre c l hb K g3
    have q3 := try_run k hk 3 (by omega) (by omega) rfl rfl rfl pre c l hb K g4
    have q4 := try_run k hk 4 (by omega) (by omega) rfl rfl rfl pre c l hb K g5
    have q5 := L156_5 k g6 (pre ++ c :: l) (pre.length : Int) K
    rw [← e1] at q0
    rw [← e2] at q1; rw [← e3] at q2; rw [← e4] at q3; rw [← e5] at q4; rw [← e6] at q5
    rw [q0]
    refine q1.trans ?_
    unfold runeP
    dsimp only
    cases fitsP 1 c
    · simp only [cond_false]
      refine q2.trans ?_
      cases fitsP 2 c
      · simp only [cond_false]
        refine q3.trans ?_
        cases fitsP 3 c
        · simp only [cond_false]
          refine q4.trans ?_
          cases fitsP 4 c
          · simp only [cond_false]; exact q5
          · rfl
        · rfl
      · rfl
    · rfl

/-- a text all of whose runes are there -/
def validN : Nat → LB → Bool
  | _, [] => true
  | 0, _ => false
  | n + 1, c :: l => bif ieq (runeP (c :: l)).2 0 then false else validN n ((c :: l).drop (runeP (c :: l)).2.toNat)
def validP (l : LB) : Bool := validN l.length l

theorem innerP_len : ∀ (m : Nat) (r : Int) (l : LB) (q : Int), innerP m r l = some q → m ≤ l.length
  | 0, _, _, _, _ => Nat.zero_le _
  | _ + 1, _, [], _, h => by simp [innerP] at h
  | m + 1, r, c :: l, q, h => by
    unfold innerP at h
    cases hc : ine (wand .u8 (c.toNat : Int) 192) 128
    · rw [hc, cond_false] at h
      have := innerP_len m _ l q h
      simpa using this
    · rw [hc, cond_true] at h; cases h
theorem innerP_loc : ∀ (m : Nat) (r : Int) (l l' : LB) (q : Int), innerP m r l = some q → innerP m r (l.take m ++ l') = some q
  | 0, _, _, _, _, h => h
  | _ + 1, _, [], _, _, h => by simp [innerP] at h
  | m + 1, r, c :: l, l', q, h => by
    simp only [List.take_succ_cons, List.cons_append]
    unfold innerP at h ⊢
    cases hc : ine (wand .u8 (c.toNat : Int) 192) 128
    · rw [hc, cond_false] at h
      rw [cond_false]
      exact innerP_loc m _ l l' q h
    · rw [hc, cond_true] at h; cases h
theorem tryP_cases (n : Nat) (c : UInt8) (l : LB) (hn : 1 ≤ n) : tryP n c l = (0, 0) ∨
    (n ≤ l.length + 1 ∧ ∃ r, innerP (n - 1) (wandn .i64 (wcv .i64 (c.toNat : Int)) (mskN n)) l = some r ∧ ilt r (leastN n) = false ∧ mayB r = true ∧ tryP n c l = (r, (n : Int))) := by
  unfold tryP
  cases hg : Nat.ble n (l.length + 1)
  · exact .inl rfl
  · simp only [cond_true]
    cases hi : innerP (n - 1) (wandn .i64 (wcv .i64 (c.toNat : Int)) (mskN n)) l with
    | none => exact .inl rfl
    | some r =>
      dsimp only
      cases h1 : ilt r (leastN n)
      · cases h2 : mayB r
        · exact .inl rfl
        · exact .inr ⟨Nat.le_of_ble_eq_true hg, r, rfl, h1, h2, rfl⟩
      · exact .inl rfl
theorem tryP_loc (n : Nat) (c : UInt8) (l l' : LB) (hn : 1 ≤ n) (h : (tryP n c l).2 ≠ 0) : tryP n c (l.take (n - 1) ++ l') = tryP n c l := by
  rcases tryP_cases n c l hn with h0 | ⟨hl, r, hi, h1, h2, h3⟩
  · rw [h0] at h; exact absurd rfl h
  · rw [h3]
    unfold tryP
    rw [innerP_loc _ _ _ l' _ hi, Nat.ble_eq_true_of_le (by simp; omega)]
    simp only [cond_true, h1, h2, cond_false]
/-- what a rune's head tells: which form it has -/
theorem runeP_form (c : UInt8) (l : LB) (h : (runeP (c :: l)).2 ≠ 0) : ∃ n, 1 ≤ n ∧ n ≤ 4 ∧ fitsP n c = true ∧ (∀ l', runeP (c :: l') = tryP n c l') := by
  unfold runeP at h ⊢
  dsimp only at h ⊢
  cases h1 : fitsP 1 c
  · cases h2 : fitsP 2 c
    · cases h3 : fitsP 3 c
      · cases h4 : fitsP 4 c
        · rw [h1, h2, h3, h4] at h; exact absurd rfl h
        · exact ⟨4, by omega, by omega, h4, fun l' => rfl⟩
      · exact ⟨3, by omega, by omega, h3, fun l' => rfl⟩
    · exact ⟨2, by omega, by omega, h2, fun l' => rfl⟩
  · exact ⟨1, by omega, by omega, h1, fun l' => rfl⟩
/-- a rune: so many bytes, at its place whatever follows -/
theorem runeP_some (c : UInt8) (l : LB) (h : (runeP (c :: l)).2 ≠ 0) : ∃ n : Nat, 1 ≤ n ∧ n ≤ 4 ∧ n ≤ l.length + 1 ∧ fitsP n c = true ∧ (runeP (c :: l)).2 = (n : Int) ∧ leastN n ≤ (runeP (c :: l)).1 ∧ mayB (runeP (c :: l)).1 = true ∧
    ∀ l', runeP ((c :: l).take n ++ l') = runeP (c :: l) := by
  obtain ⟨n, h1, h2, h3, h4⟩ := runeP_form c l h
  have h5 := h4 l
  rcases tryP_cases n c l h1 with h0 | ⟨hl, r, hi, g1, g2, g3⟩
  · rw [h5, h0] at h; exact absurd rfl h
  · refine ⟨n, h1, h2, hl, h3, by rw [h5, g3], ?_, by rw [h5, g3]; exact g2, fun l' => ?_⟩
    · rw [h5, g3]; simpa [ilt] using g1
    · obtain ⟨m, rfl⟩ : ∃ m, n = m + 1 := ⟨n - 1, by omega⟩
      simp only [List.take_succ_cons, List.cons_append]
      rw [h4, h5]
      exact tryP_loc (m + 1) c l l' h1 (by rw [g3]; show ((m + 1 : Nat) : Int) ≠ 0; omega)
theorem runeP_zero (l : LB) (h : (runeP l).2 = 0) : (runeP l).2 = 0 := h

theorem first_run {α : Type} (k : Nat) (hk : 6 ≤ k) (K : Int → Option α) : ∀ (n f : Nat) (pre l : LB), l.length ≤ n → n < f → (pre ++ l).length < 9223372036854775800 →
    ∃ r : Int, ((validN n l = true ∧ r = -1) ∨ (validN n l = false ∧ 0 ≤ r)) ∧ L144al0 k K (pre ++ l) f (pre.length : Int) = K r := by
  intro n
  induction n with
  | zero =>
    intro f pre l hl hf hb
    obtain ⟨f, rfl⟩ : ∃ g, f = g + 1 := ⟨f - 1, by omega⟩
    cases l with
    | nil => exact ⟨-1, .inl ⟨rfl, rfl⟩, by simp only [L144al0, T144al0, ilt_end']; rfl⟩
    | cons c l => simp at hl
  | succ n ih =>
    intro f pre l hl hf hb
    obtain ⟨f, rfl⟩ : ∃ g, f = g + 1 := ⟨f - 1, by omega⟩
    cases l with
    | nil => exact ⟨-1, .inl ⟨rfl, rfl⟩, by simp only [L144al0, T144al0, ilt_end']; rfl⟩
    | cons c l =>
      simp only [L144al0, T144al0, ilt_pre', cond_true, f156 k hk pre (c :: l) hb]
      unfold validN
      cases hz : ieq (runeP (c :: l)).2 0
      · simp only [cond_false]
        have hne : (runeP (c :: l)).2 ≠ 0 := by simpa [ieq] using hz
        obtain ⟨m, m1, m2, m3, m4, m5, _⟩ := runeP_some c l hne
        rw [m5, Int.toNat_natCast]
        have hlen : (pre ++ c :: l).length = pre.length + (l.length + 1) := by simp
        have e : wadd .i64 (pre.length : Int) (m : Int) = ((pre ++ (c :: l).take m).length : Int) := by
          rw [wadd_in (by omega) (by omega)]
          have : ((c :: l).take m).length = m := by simp; omega
          rw [List.length_append, this]; simp
        have e2 : pre ++ c :: l = (pre ++ (c :: l).take m) ++ (c :: l).drop m := by rw [List.append_assoc, List.take_append_drop]
        rw [e]
        obtain ⟨r, hr, hrun⟩ := ih f (pre ++ (c :: l).take m) ((c :: l).drop m) (by simp at hl ⊢; omega) (by omega) (by rw [← e2]; exact hb)
        refine ⟨r, hr, ?_⟩
        rw [← hrun, ← e2]
      · exact ⟨(pre.length : Int), .inr ⟨rfl, by omega⟩, rfl⟩
theorem f98 {α : Type} (k : Nat) (x : LB) (hk : x.length + 6 ≤ k) (hb : x.length < 9223372036854775800) (K : Bool → Option α) : f98a k x K = K (validP x) := by
  unfold f98a T98a f144a T144a
  obtain ⟨r, hr, h⟩ := first_run k (by omega) (fun y0 => K (ilt y0 0)) x.length k [] x (Nat.le_refl _) (by omega) (by simpa using hb)
  simp only [List.nil_append, List.length_nil] at h
  refine h.trans ?_
  unfold validP
  rcases hr with ⟨h1, h2⟩ | ⟨h1, h2⟩
  · rw [h1, h2]; rfl
  · rw [h1]
    have : ilt r 0 = false := by simp [ilt]; omega
    rw [this]
end Go.AI

/-
  PLAIN LAWS: which actions may be.
-/
set_option maxRecDepth 100000
set_option linter.unusedVariables false
set_option linter.unusedSimpArgs false
namespace Go.AI
open Go.Proofs

/-! ### values -/
def kind0B (x : Int) : Bool := bif ieq x 0 then true else kindB x
theorem f96 {α : Type} (k : Nat) (x : Int) (K : Bool → Option α) : f96a k x K = K (kind0B x) := by
  unfold f96a T96a kind0B
  simp only [f59]; exact push2 K _ _ _
def plainB (x0 x1 : Int) (x2 : Bool) (x3 : LB) : Bool :=
  bif ieq x0 1 then Bool.and (ieq x0 x0) (Bool.and (ieq x1 x1) (Bool.and (beqB x2 false) (Bool.and (seq x3 []) true)))
  else (bif ieq x0 2 then Bool.and (ieq x0 x0) (Bool.and (ieq x1 0) (Bool.and (beqB x2 x2) (Bool.and (seq x3 []) true)))
  else (bif ieq x0 3 then Bool.and (ieq x0 x0) (Bool.and (ieq x1 0) (Bool.and (beqB x2 false) (Bool.and (seq x3 x3) true)))
  else Bool.and (ieq x0 0) (Bool.and (ieq x1 0) (Bool.and (beqB x2 false) (Bool.and (seq x3 []) true)))))
def valueB (x0 x1 : Int) (x2 : Bool) (x3 : LB) : Bool := bif kind0B x0 then (bif plainB x0 x1 x2 x3 then (bif ile (slen x3) 64 then validP x3 else false) else false) else false
theorem f55 {α : Type} (k : Nat) (hk : 100 ≤ k) (x0 x1 : Int) (x2 : Bool) (x3 : LB) (K : Bool → Option α) : f55a k x0 x1 x2 x3 K = K (valueB x0 x1 x2 x3) := by
  unfold f55a T55a valueB
  simp only [f96]
  cases hk0 : kind0B x0
  · rfl
  · simp only [cond_true]
    have hv : (bif ile (slen x3) 64 then f98a k x3 (fun y5 => K y5) else K false) = K (bif ile (slen x3) 64 then validP x3 else false) := by
      cases h : ile (slen x3) 64
      · rfl
      · have hl : x3.length ≤ 64 := by simp [ile, slen] at h; omega
        simp only [cond_true]
        exact f98 k x3 (by omega) (by omega) _
    unfold f97a T97a plainB
    rw [hv]
    cases ieq x0 1
    · cases ieq x0 2
      · cases ieq x0 3
        · simp only [cond_false, push2 K]
        · simp only [cond_false, cond_true, push2 K]
      · simp only [cond_false, cond_true, push2 K]
    · simp only [cond_true, push2 K]
/-- what a value may be -/
theorem valueB_imp {x0 x1 : Int} {x2 : Bool} {x3 : LB} (h : valueB x0 x1 x2 x3 = true) :
    (x0 = 0 ∧ x1 = 0 ∧ x2 = false ∧ x3 = []) ∨ (x0 = 1 ∧ x2 = false ∧ x3 = []) ∨ (x0 = 2 ∧ x1 = 0 ∧ x3 = []) ∨ (x0 = 3 ∧ x1 = 0 ∧ x2 = false ∧ x3.length ≤ 64 ∧ validP x3 = true) := by
  unfold valueB at h
  rw [cond_iff, cond_iff, cond_iff] at h
  rcases h with ⟨_, ⟨h2, ⟨h3, h4⟩ | ⟨_, h⟩⟩ | ⟨_, h⟩⟩ | ⟨_, h⟩
  · unfold plainB at h2
    simp only [cond_iff] at h2
    simp only [ieq, seq, beqB, Bool.and_eq_true, beq_iff_eq, beq_eq_false_iff_ne, Bool.and_true, ile, slen, decide_eq_true_eq] at h2 h3
    rcases h2 with ⟨e, _, _, a, b⟩ | ⟨_, ⟨e, _, a, _, b⟩ | ⟨_, ⟨e, _, a, b, _⟩ | ⟨_, e, a, b, c⟩⟩⟩
    · exact .inr (.inl ⟨e, a, by simpa using b⟩)
    · exact .inr (.inr (.inl ⟨e, a, by simpa using b⟩))
    · exact .inr (.inr (.inr ⟨e, a, b, by omega, h4⟩))
    · exact .inl ⟨e, a, b, by simpa using c⟩
  · cases h
  · cases h
  · cases h

/-! ### a file -/
def valRow (r : List AV) : Bool := valueB (toI (lget r 0 .unk)) (toI (lget r 1 .unk)) (toB (lget r 2 .unk)) (toS (lget r 3 .unk))
def statsB (x2 : Int) : Int → LR → Bool
  | _, [] => true
  | last, r :: l => bif ile (toI (lget r 0 .unk)) last then false else (bif inB (toI (lget r 1 .unk)) x2 then
      (bif valueB (toI (lget r 2 .unk)) (toI (lget r 3 .unk)) (toB (lget r 4 .unk)) (toS (lget r 5 .unk)) then
      (bif valueB (toI (lget r 6 .unk)) (toI (lget r 7 .unk)) (toB (lget r 8 .unk)) (toS (lget r 9 .unk)) then statsB x2 (toI (lget r 0 .unk)) l else false) else false) else false)
theorem stats_run {α : Type} (k : Nat) (hk : 100 ≤ k) (x0 : LB) (x1 x2 : Int) (x3 : LR) (K : Bool → Option α) : ∀ (l : LR) (f : Nat) (pre : LR) (last : Int), l.length < f → (pre ++ l).length ≤ 100 →
    L25al1 k K x0 x1 x2 x3 (pre ++ l) f last (pre.length : Int) = K (statsB x1 last l) := by
  intro l
  induction l with
  | nil =>
    intro f pre last hf hb
    obtain ⟨f, rfl⟩ : ∃ g, f = g + 1 := ⟨f - 1, by omega⟩
    simp only [L25al1, T25al1, ilt_end]; rfl
  | cons r l ih =>
    intro f pre last hf hb
    obtain ⟨f, rfl⟩ : ∃ g, f = g + 1 := ⟨f - 1, by omega⟩
    have hl : (pre ++ r :: l).length = pre.length + (l.length + 1) := by simp
    simp only [L25al1, T25al1, ilt_pre, ile_pre, rget_pre, cond_true, f54, f55 k hk, statsB, wadd_pre pre r (by omega)]
    rw [app_snoc pre r l, ih f (pre ++ [r]) _ (by simpa using hf) (by rw [← app_snoc]; exact hb)]
    cases ile (toI (lget r 0 .unk)) last
    · cases inB (toI (lget r 1 .unk)) x1
      · rfl
      · cases valueB (toI (lget r 2 .unk)) (toI (lget r 3 .unk)) (toB (lget r 4 .unk)) (toS (lget r 5 .unk))
        · rfl
        · cases valueB (toI (lget r 6 .unk)) (toI (lget r 7 .unk)) (toB (lget r 8 .unk)) (toS (lget r 9 .unk)) <;> rfl
    · rfl
theorem part_run {α : Type} (k : Nat) (hk : 100 ≤ k) (x0 : LB) (x1 x2 : Int) (x4 : LR) (h4 : x4.length ≤ 12) (K : Bool → Option α) : ∀ (l : LR) (f : Nat) (pre : LR), l.length < f → (pre ++ l).length ≤ 100 →
    L25al0 k K x0 x1 x2 (pre ++ l) x4 f (pre.length : Int) = K (bif l.all valRow then statsB x1 0 x4 else false) := by
  intro l
  induction l with
  | nil =>
    intro f pre hf hb
    obtain ⟨f, rfl⟩ : ∃ g, f = g + 1 := ⟨f - 1, by omega⟩
    simp only [L25al0, T25al0, ilt_end, cond_false]
    have := stats_run k hk x0 x1 x2 (pre ++ []) K x4 k [] 0 (by omega) (by simp; omega)
    simpa using this
  | cons r l ih =>
    intro f pre hf hb
    obtain ⟨f, rfl⟩ : ∃ g, f = g + 1 := ⟨f - 1, by omega⟩
    have hl : (pre ++ r :: l).length = pre.length + (l.length + 1) := by simp
    simp only [L25al0, T25al0, ilt_pre, ile_pre, rget_pre, cond_true, f55 k hk, List.all_cons, wadd_pre pre r (by omega)]
    rw [app_snoc pre r l, ih f (pre ++ [r]) (by simpa using hf) (by rw [← app_snoc]; exact hb)]
    show _ = K (bif (valRow r && l.all valRow) then _ else _)
    unfold valRow
    cases valueB (toI (lget r 0 .unk)) (toI (lget r 1 .unk)) (toB (lget r 2 .unk)) (toS (lget r 3 .unk)) <;> rfl
def fileB (x0 : LB) (x1 x2 : Int) (x3 x4 : LR) : Bool :=
  bif keyB x0 then (bif inB x1 4096 then (bif inB x2 2147483647 then (bif igt (rlen x3) 4 then false else (bif igt (rlen x4) 12 then false else (bif x3.all valRow then statsB x1 0 x4 else false))) else false) else false) else false
theorem f25 {α : Type} (k : Nat) (hk : 100 ≤ k) (x0 : LB) (x1 x2 : Int) (x3 x4 : LR) (K : Bool → Option α) : f25a k x0 x1 x2 x3 x4 K = K (fileB x0 x1 x2 x3 x4) := by
  unfold f25a T25a fileB
  simp only [f26 k (by omega), f54]
  cases keyB x0
  · rfl
  · cases inB x1 4096
    · rfl
    · cases inB x2 2147483647
      · rfl
      · cases h3 : igt (rlen x3) 4
        · cases h4 : igt (rlen x4) 12
          · simp only [Bool.not_true, cond_false, cond_true]
            have e3 : x3.length ≤ 4 := by simp [igt, rlen] at h3; omega
            have e4 : x4.length ≤ 12 := by simp [igt, rlen] at h4; omega
            have := part_run k hk x0 x1 x2 x4 e4 K x3 k [] (by omega) (by simp; omega)
            simpa using this
          · rfl
        · rfl

/-! ### a schema -/
def colRow (x2 : Int) (pre : LR) (r : List AV) : Bool :=
  bif ilt (toI (lget r 0 .unk)) 1 then false else (bif ige (toI (lget r 0 .unk)) x2 then false else (bif nameB (toS (lget r 1 .unk)) then (bif kindB (toI (lget r 2 .unk)) then
    pre.all (fun q => bif ieq (toI (lget q 0 .unk)) (toI (lget r 0 .unk)) then false else (bif seq (toS (lget q 1 .unk)) (toS (lget r 1 .unk)) then false else true)) else false) else false))
def colsB (x2 : Int) : LR → LR → Bool
  | _, [] => true
  | pre, r :: l => bif colRow x2 pre r then colsB x2 (pre ++ [r]) l else false
theorem rsub_pre {β : Type} (pre l : List β) : rsub (pre ++ l) 0 (pre.length : Int) = pre := by
  simp only [rsub, Int.toNat_zero, Int.toNat_natCast, ldrop_eq]; simp
theorem twin_run {α : Type} (k : Nat) (x0 x2 : Int) (pre : LR) (r : List AV) (l : LR) (r0 : Int → Option α) (K : Bool → Option α) (hb : (pre ++ r :: l).length ≤ 100) : ∀ (q : LR) (f : Nat) (p : LR), q.length < f → pre = p ++ q →
    L28al1 k r0 K (pre.length : Int) x0 (pre ++ r :: l) x2 f (p.length : Int) = bif (q.all fun q => bif ieq (toI (lget q 0 .unk)) (toI (lget r 0 .unk)) then false else (bif seq (toS (lget q 1 .unk)) (toS (lget r 1 .unk)) then false else true)) then r0 (wadd .i64 (pre.length : Int) 1) else K false := by
  intro q
  induction q with
  | nil =>
    intro f p hf hp
    obtain ⟨f, rfl⟩ : ∃ g, f = g + 1 := ⟨f - 1, by omega⟩
    simp only [L28al1, T28al1, rsub_pre]
    have : ilt (p.length : Int) (rlen pre) = false := by rw [hp]; exact ilt_end p
    rw [this]; rfl
  | cons a q ih =>
    intro f p hf hp
    obtain ⟨f, rfl⟩ : ∃ g, f = g + 1 := ⟨f - 1, by omega⟩
    have hl : (pre ++ r :: l).length = pre.length + (l.length + 1) := by simp
    have hpl : pre.length = p.length + (q.length + 1) := by rw [hp]; simp
    have e1 : ilt (p.length : Int) (rlen pre) = true := by rw [hp]; exact ilt_pre p a q
    have e2 : rget pre (p.length : Int) = a := by rw [hp]; exact rget_pre p a q
    simp only [L28al1, T28al1, rsub_pre, e1, e2, ile_pre, rget_pre, cond_true, List.all_cons, wadd_pre p a (by omega)]
    rw [ih f (p ++ [a]) (by simpa using hf) (by rw [hp, app_snoc])]
    cases ieq (toI (lget a 0 .unk)) (toI (lget r 0 .unk))
    · cases seq (toS (lget a 1 .unk)) (toS (lget r 1 .unk)) <;> rfl
    · rfl
theorem cols_run {α : Type} (k : Nat) (hk : 100 ≤ k) (x0 x2 : Int) (K : Bool → Option α) : ∀ (l : LR) (f : Nat) (pre : LR), l.length < f → (pre ++ l).length ≤ 90 →
    L28al0 k K x0 (pre ++ l) x2 f (pre.length : Int) = K (colsB x2 pre l) := by
  intro l
  induction l with
  | nil =>
    intro f pre hf hb
    obtain ⟨f, rfl⟩ : ∃ g, f = g + 1 := ⟨f - 1, by omega⟩
    simp only [L28al0, T28al0, ilt_end]; rfl
  | cons r l ih =>
    intro f pre hf hb
    obtain ⟨f, rfl⟩ : ∃ g, f = g + 1 := ⟨f - 1, by omega⟩
    have hl : (pre ++ r :: l).length = pre.length + (l.length + 1) := by simp
    have e2 : ile (pre.length : Int) (rlen (pre ++ r :: l)) = true := by simp [ile, rlen]; omega
    simp only [L28al0, T28al0, ilt_pre, ile_pre, rget_pre, cond_true, f58, f59, e2]
    rw [show (0 : Int) = (([] : LR).length : Int) from rfl, twin_run k x0 x2 pre r l _ K (by omega) pre k [] (by omega) rfl, wadd_pre pre r (by omega)]
    rw [app_snoc pre r l, ih f (pre ++ [r]) (by simpa using hf) (by rw [← app_snoc]; exact hb)]
    have ec : colsB x2 pre (r :: l) = bif colRow x2 pre r then colsB x2 (pre ++ [r]) l else false := rfl
    rw [ec]
    unfold colRow
    cases ilt (toI (lget r 0 .unk)) 1
    · cases ige (toI (lget r 0 .unk)) x2
      · cases nameB (toS (lget r 1 .unk))
        · rfl
        · cases kindB (toI (lget r 2 .unk))
          · rfl
          · cases (pre.all fun q => bif ieq (toI (lget q 0 .unk)) (toI (lget r 0 .unk)) then false else (bif seq (toS (lget q 1 .unk)) (toS (lget r 1 .unk)) then false else true)) <;> rfl
      · rfl
    · rfl
def schemaB (x0 : Int) (x1 : LR) (x2 : Int) : Bool :=
  bif ilt x0 0 then false else (bif igt x0 2147483647 then false else (bif ilt (rlen x1) 1 then false else (bif igt (rlen x1) 12 then false else (bif ilt x2 1 then false else (bif igt x2 2147483647 then false else colsB x2 [] x1)))))
theorem f28 {α : Type} (k : Nat) (hk : 100 ≤ k) (x0 : Int) (x1 : LR) (x2 : Int) (K : Bool → Option α) : f28a k x0 x1 x2 K = K (schemaB x0 x1 x2) := by
  unfold f28a T28a schemaB
  cases ilt x0 0
  · cases igt x0 2147483647
    · cases ilt (rlen x1) 1
      · cases h : igt (rlen x1) 12
        · cases ilt x2 1
          · cases igt x2 2147483647
            · have e : x1.length ≤ 12 := by simp [igt, rlen] at h; omega
              have := cols_run k hk x0 x2 K x1 k [] (by omega) (by simp; omega)
              simpa using this
            · rfl
          · rfl
        · rfl
      · rfl
    · rfl
  · rfl

/-! ### a spec -/
def fieldRow (r : List AV) : Bool := bif ilt (toI (lget r 0 .unk)) 1 then false else (bif igt (toI (lget r 0 .unk)) 2147483647 then false else paramB (toI (lget r 1 .unk)) (toI (lget r 2 .unk)))
theorem fields_run {α : Type} (k : Nat) (x0 : Int) (K : Bool → Option α) : ∀ (l : LR) (f : Nat) (pre : LR), l.length < f → (pre ++ l).length ≤ 90 →
    L29al0 k K x0 (pre ++ l) f (pre.length : Int) = K (l.all fieldRow) := by
  intro l
  induction l with
  | nil =>
    intro f pre hf hb
    obtain ⟨f, rfl⟩ : ∃ g, f = g + 1 := ⟨f - 1, by omega⟩
    simp only [L29al0, T29al0, ilt_end]; rfl
  | cons r l ih =>
    intro f pre hf hb
    obtain ⟨f, rfl⟩ : ∃ g, f = g + 1 := ⟨f - 1, by omega⟩
    have hl : (pre ++ r :: l).length = pre.length + (l.length + 1) := by simp
    simp only [L29al0, T29al0, ilt_pre, ile_pre, rget_pre, cond_true, f60, List.all_cons, wadd_pre pre r (by omega)]
    rw [app_snoc pre r l, ih f (pre ++ [r]) (by simpa using hf) (by rw [← app_snoc]; exact hb)]
    unfold fieldRow
    cases ilt (toI (lget r 0 .unk)) 1
    · cases igt (toI (lget r 0 .unk)) 2147483647
      · cases paramB (toI (lget r 1 .unk)) (toI (lget r 2 .unk)) <;> rfl
      · rfl
    · rfl
def specB (x0 : Int) (x1 : LR) : Bool := bif inB x0 2147483647 then (bif igt (rlen x1) 4 then false else x1.all fieldRow) else false
theorem f29 {α : Type} (k : Nat) (hk : 100 ≤ k) (x0 : Int) (x1 : LR) (K : Bool → Option α) : f29a k x0 x1 K = K (specB x0 x1) := by
  unfold f29a T29a specB
  simp only [f54]
  cases inB x0 2147483647
  · rfl
  · cases h : igt (rlen x1) 4
    · have e : x1.length ≤ 4 := by simp [igt, rlen] at h; omega
      have := fields_run k x0 K x1 k [] (by omega) (by simp; omega)
      simpa using this
    · rfl

/-! ### an action -/
def infoB (x16 x17 x18 x19 : Int) : Bool := bif inB x16 8 then (bif inB x17 2147483647 then (bif inB x18 11 then ige x19 0 else false) else false) else false
theorem f31 {α : Type} (k : Nat) (x0 : Int) (x1 : LB) (x2 : Int) (x3 : Int) (x4 : LR) (x5 : LR) (x6 : LB) (x7 : LB) (x8 : LB) (x9 : Int) (x10 : Int) (x11 : LR) (x12 : Int) (x13 : Int) (x14 : LR) (x15 : LB) (x16 : Int) (x17 : Int) (x18 : Int) (x19 : Int) (K : Bool → Option α) : f31a k x0 x1 x2 x3 x4 x5 x6 x7 x8 x9 x10 x11 x12 x13 x14 x15 x16 x17 x18 x19 K = K (infoB x16 x17 x18 x19) := by
  unfold f31a T31a infoB
  simp only [f54, push2 K]
/-- are all fields as those of another? (of lists their lengths) -/
def bareB (x0 : Int) (x1 : LB) (x2 : Int) (x3 : Int) (x4 : LR) (x5 : LR) (x6 : LB) (x7 : LB) (x8 : LB) (x9 : Int) (x10 : Int) (x11 : LR) (x12 : Int) (x13 : Int) (x14 : LR) (x15 : LB) (x16 : Int) (x17 : Int) (x18 : Int) (x19 : Int) (x20 : Int) (x21 : LB) (x22 : Int) (x23 : Int) (x24 : LR) (x25 : LR) (x26 : LB) (x27 : LB) (x28 : LB) (x29 : Int) (x30 : Int) (x31 : LR) (x32 : Int) (x33 : Int) (x34 : LR) (x35 : LB) (x36 : Int) (x37 : Int) (x38 : Int) (x39 : Int) : Bool := decide (x1 = x21) && (decide (x2 = x22) && (decide (x3 = x23) && (decide (x4.length = x24.length) && (decide (x5.length = x25.length) && (decide (x10 = x30) && (decide (x12 = x32) && (decide (x11.length = x31.length) && (decide (x13 = x33) && (decide (x14.length = x34.length) && (decide (x6 = x26) && (decide (x7 = x27) && (decide (x8 = x28) && (decide (x9 = x29) && (decide (x15 = x35) && (decide (x16 = x36) && (decide (x17 = x37) && (decide (x18 = x38) && decide (x19 = x39))))))))))))))))))
theorem rlen_nat (a c : LR) : ieq (rlen a) (rlen c) = decide (a.length = c.length) := by
  rw [Bool.eq_iff_iff]; simp only [ieq, rlen, beq_iff_eq, decide_eq_true_eq]; omega
theorem seq_dec (a c : LB) : seq a c = decide (a = c) := by rw [Bool.eq_iff_iff]; simp [seq]
theorem ieq_dec (a c : Int) : ieq a c = decide (a = c) := by rw [Bool.eq_iff_iff]; simp [ieq]
theorem condA (b x : Bool) : (bif b then x else false) = (b && x) := by cases b <;> rfl
theorem bare_core {α : Type} (x0 : Int) (x1 : LB) (x2 : Int) (x3 : Int) (x4 : LR) (x5 : LR) (x6 : LB) (x7 : LB) (x8 : LB) (x9 : Int) (x10 : Int) (x11 : LR) (x12 : Int) (x13 : Int) (x14 : LR) (x15 : LB) (x16 : Int) (x17 : Int) (x18 : Int) (x19 : Int) (x20 : Int) (x21 : LB) (x22 : Int) (x23 : Int) (x24 : LR) (x25 : LR) (x26 : LB) (x27 : LB) (x28 : LB) (x29 : Int) (x30 : Int) (x31 : LR) (x32 : Int) (x33 : Int) (x34 : LR) (x35 : LB) (x36 : Int) (x37 : Int) (x38 : Int) (x39 : Int) (K : Bool → Option α) : T32a (fun t0 t1 => T32aj2 (fun t0 t1 t2 => T32aj4 K x0 x1 x2 x3 x4 x5 x6 x7 x8 x9 x10 x11 x12 x13 x14 x15 x16 x17 x18 x19 x20 x21 x22 x23 x24 x25 x26 x27 x28 x29 x30 x31 x32 x33 x34 x35 x36 x37 x38 x39 t0 t1 t2) K x0 x1 x2 x3 x4 x5 x6 x7 x8 x9 x10 x11 x12 x13 x14 x15 x16 x17 x18 x19 x20 x21 x22 x23 x24 x25 x26 x27 x28 x29 x30 x31 x32 x33 x34 x35 x36 x37 x38 x39 t0 t1) K x0 x1 x2 x3 x4 x5 x6 x7 x8 x9 x10 x11 x12 x13 x14 x15 x16 x17 x18 x19 x20 x21 x22 x23 x24 x25 x26 x27 x28 x29 x30 x31 x32 x33 x34 x35 x36 x37 x38 x39 = K (bareB x0 x1 x2 x3 x4 x5 x6 x7 x8 x9 x10 x11 x12 x13 x14 x15 x16 x17 x18 x19 x20 x21 x22 x23 x24 x25 x26 x27 x28 x29 x30 x31 x32 x33 x34 x35 x36 x37 x38 x39) := by
  unfold T32a T32aj2 T32aj4 bareB
  simp only [rlen_nat]
  simp only [push2 K, seq_dec, ieq_dec, condA, Bool.and_true, Bool.false_and, Bool.and_false]
  congr 1
  cases decide (x1 = x21) <;> try simp only [Bool.false_and, Bool.true_and, cond_false, cond_true, condA, Bool.cond_self]
  cases decide (x2 = x22) <;> try simp only [Bool.false_and, Bool.true_and, cond_false, cond_true, condA, Bool.cond_self]
  cases decide (x3 = x23) <;> try simp only [Bool.false_and, Bool.true_and, cond_false, cond_true, condA, Bool.cond_self]
  cases decide (x4.length = x24.length) <;> try simp only [Bool.false_and, Bool.true_and, cond_false, cond_true, condA, Bool.cond_self]
  cases decide (x5.length = x25.length) <;> try simp only [Bool.false_and, Bool.true_and, cond_false, cond_true, condA, Bool.cond_self]
  cases decide (x10 = x30) <;> try simp only [Bool.false_and, Bool.true_and, cond_false, cond_true, condA, Bool.cond_self]
  cases decide (x12 = x32) <;> try simp only [Bool.false_and, Bool.true_and, cond_false, cond_true, condA, Bool.cond_self]
  cases decide (x11.length = x31.length) <;> try simp only [Bool.false_and, Bool.true_and, cond_false, cond_true, condA, Bool.cond_self]
  cases decide (x13 = x33) <;> try simp only [Bool.false_and, Bool.true_and, cond_false, cond_true, condA, Bool.cond_self]
  cases decide (x14.length = x34.length) <;> try simp only [Bool.false_and, Bool.true_and, cond_false, cond_true, condA, Bool.cond_self]
  all_goals simp only [Bool.and_assoc, Bool.and_false, Bool.cond_self]
theorem e32a {α : Type} (k : Nat) (x0 : Int) (x1 : LB) (x2 : Int) (x3 : Int) (x4 : LR) (x5 : LR) (x6 : LB) (x7 : LB) (x8 : LB) (x9 : Int) (x10 : Int) (x11 : LR) (x12 : Int) (x13 : Int) (x14 : LR) (x15 : LB) (x16 : Int) (x17 : Int) (x18 : Int) (x19 : Int) (x20 : Int) (x21 : LB) (x22 : Int) (x23 : Int) (x24 : LR) (x25 : LR) (x26 : LB) (x27 : LB) (x28 : LB) (x29 : Int) (x30 : Int) (x31 : LR) (x32 : Int) (x33 : Int) (x34 : LR) (x35 : LB) (x36 : Int) (x37 : Int) (x38 : Int) (x39 : Int) (K : Bool → Option α) : f32a k x0 x1 x2 x3 x4 x5 x6 x7 x8 x9 x10 x11 x12 x13 x14 x15 x16 x17 x18 x19 x20 x21 x22 x23 x24 x25 x26 x27 x28 x29 x30 x31 x32 x33 x34 x35 x36 x37 x38 x39 K = K (bareB x0 x1 x2 x3 x4 x5 x6 x7 x8 x9 x10 x11 x12 x13 x14 x15 x16 x17 x18 x19 x20 x21 x22 x23 x24 x25 x26 x27 x28 x29 x30 x31 x32 x33 x34 x35 x36 x37 x38 x39) := bare_core x0 x1 x2 x3 x4 x5 x6 x7 x8 x9 x10 x11 x12 x13 x14 x15 x16 x17 x18 x19 x20 x21 x22 x23 x24 x25 x26 x27 x28 x29 x30 x31 x32 x33 x34 x35 x36 x37 x38 x39 K
theorem e32b {α : Type} (k : Nat) (x0 : Int) (x1 : LB) (x2 : Int) (x3 : Int) (x4 : LR) (x5 : LR) (x6 : LB) (x7 : LB) (x8 : LB) (x9 : Int) (x10 : Int) (x11 : LR) (x12 : Int) (x13 : Int) (x14 : LR) (x15 : LB) (x16 : Int) (x17 : Int) (x18 : Int) (x19 : Int) (x20 : Int) (x21 : LB) (x22 : Int) (x23 : Int) (x24 : LR) (x25 : LR) (x26 : LB) (x27 : LB) (x28 : LB) (x29 : Int) (x30 : Int) (x31 : LR) (x32 : Int) (x33 : Int) (x34 : LR) (x35 : LB) (x36 : Int) (x37 : Int) (x38 : Int) (x39 : Int) (K : Bool → Option α) : f32b k x0 x1 x2 x3 x4 x5 x6 x7 x8 x9 x10 x11 x12 x13 x14 x15 x16 x17 x18 x19 x20 x21 x22 x23 x24 x25 x26 x27 x28 x29 x30 x31 x32 x33 x34 x35 x36 x37 x38 x39 K = K (bareB x0 x1 x2 x3 x4 x5 x6 x7 x8 x9 x10 x11 x12 x13 x14 x15 x16 x17 x18 x19 x20 x21 x22 x23 x24 x25 x26 x27 x28 x29 x30 x31 x32 x33 x34 x35 x36 x37 x38 x39) := bare_core x0 x1 x2 x3 x4 x5 x6 x7 x8 x9 x10 x11 x12 x13 x14 x15 x16 x17 x18 x19 x20 x21 x22 x23 x24 x25 x26 x27 x28 x29 x30 x31 x32 x33 x34 x35 x36 x37 x38 x39 K
theorem e32c {α : Type} (k : Nat) (x0 : Int) (x1 : LB) (x2 : Int) (x3 : Int) (x4 : LR) (x5 : LR) (x6 : LB) (x7 : LB) (x8 : LB) (x9 : Int) (x10 : Int) (x11 : LR) (x12 : Int) (x13 : Int) (x14 : LR) (x15 : LB) (x16 : Int) (x17 : Int) (x18 : Int) (x19 : Int) (x20 : Int) (x21 : LB) (x22 : Int) (x23 : Int) (x24 : LR) (x25 : LR) (x26 : LB) (x27 : LB) (x28 : LB) (x29 : Int) (x30 : Int) (x31 : LR) (x32 : Int) (x33 : Int) (x34 : LR) (x35 : LB) (x36 : Int) (x37 : Int) (x38 : Int) (x39 : Int) (K : Bool → Option α) : f32c k x0 x1 x2 x3 x4 x5 x6 x7 x8 x9 x10 x11 x12 x13 x14 x15 x16 x17 x18 x19 x20 x21 x22 x23 x24 x25 x26 x27 x28 x29 x30 x31 x32 x33 x34 x35 x36 x37 x38 x39 K = K (bareB x0 x1 x2 x3 x4 x5 x6 x7 x8 x9 x10 x11 x12 x13 x14 x15 x16 x17 x18 x19 x20 x21 x22 x23 x24 x25 x26 x27 x28 x29 x30 x31 x32 x33 x34 x35 x36 x37 x38 x39) := bare_core x0 x1 x2 x3 x4 x5 x6 x7 x8 x9 x10 x11 x12 x13 x14 x15 x16 x17 x18 x19 x20 x21 x22 x23 x24 x25 x26 x27 x28 x29 x30 x31 x32 x33 x34 x35 x36 x37 x38 x39 K
theorem e32d {α : Type} (k : Nat) (x0 : Int) (x1 : LB) (x2 : Int) (x3 : Int) (x4 : LR) (x5 : LR) (x6 : LB) (x7 : LB) (x8 : LB) (x9 : Int) (x10 : Int) (x11 : LR) (x12 : Int) (x13 : Int) (x14 : LR) (x15 : LB) (x16 : Int) (x17 : Int) (x18 : Int) (x19 : Int) (x20 : Int) (x21 : LB) (x22 : Int) (x23 : Int) (x24 : LR) (x25 : LR) (x26 : LB) (x27 : LB) (x28 : LB) (x29 : Int) (x30 : Int) (x31 : LR) (x32 : Int) (x33 : Int) (x34 : LR) (x35 : LB) (x36 : Int) (x37 : Int) (x38 : Int) (x39 : Int) (K : Bool → Option α) : f32d k x0 x1 x2 x3 x4 x5 x6 x7 x8 x9 x10 x11 x12 x13 x14 x15 x16 x17 x18 x19 x20 x21 x22 x23 x24 x25 x26 x27 x28 x29 x30 x31 x32 x33 x34 x35 x36 x37 x38 x39 K = K (bareB x0 x1 x2 x3 x4 x5 x6 x7 x8 x9 x10 x11 x12 x13 x14 x15 x16 x17 x18 x19 x20 x21 x22 x23 x24 x25 x26 x27 x28 x29 x30 x31 x32 x33 x34 x35 x36 x37 x38 x39) := bare_core x0 x1 x2 x3 x4 x5 x6 x7 x8 x9 x10 x11 x12 x13 x14 x15 x16 x17 x18 x19 x20 x21 x22 x23 x24 x25 x26 x27 x28 x29 x30 x31 x32 x33 x34 x35 x36 x37 x38 x39 K
/-- may an action be? -/
def mayA (x0 : Int) (x1 : LB) (x2 : Int) (x3 : Int) (x4 : LR) (x5 : LR) (x6 : LB) (x7 : LB) (x8 : LB) (x9 : Int) (x10 : Int) (x11 : LR) (x12 : Int) (x13 : Int) (x14 : LR) (x15 : LB) (x16 : Int) (x17 : Int) (x18 : Int) (x19 : Int) : Bool := bif ieq x0 0 then (bif fileB x1 x2 x3 x4 x5 then bareB x0 x1 x2 x3 x4 x5 x6 x7 x8 x9 x10 x11 x12 x13 x14 x15 x16 x17 x18 x19 x0 x1 x2 x3 x4 x5 [] [] [] 0 0 [] 0 0 [] [] 0 0 0 0 else false) else (bif ieq x0 1 then (bif keyB x6 then bareB x0 x1 x2 x3 x4 x5 x6 x7 x8 x9 x10 x11 x12 x13 x14 x15 x16 x17 x18 x19 x0 [] 0 0 [] [] x6 [] [] 0 0 [] 0 0 [] [] 0 0 0 0 else false) else (bif ieq x0 2 then (bif markB x7 x8 x9 then bareB x0 x1 x2 x3 x4 x5 x6 x7 x8 x9 x10 x11 x12 x13 x14 x15 x16 x17 x18 x19 x0 [] 0 0 [] [] [] x7 x8 x9 0 [] 0 0 [] [] 0 0 0 0 else false) else (bif ieq x0 3 then (bif schemaB x10 x11 x12 then bareB x0 x1 x2 x3 x4 x5 x6 x7 x8 x9 x10 x11 x12 x13 x14 x15 x16 x17 x18 x19 x0 [] 0 0 [] [] [] [] [] 0 x10 x11 x12 0 [] [] 0 0 0 0 else false) else (bif ieq x0 4 then (bif specB x13 x14 then bareB x0 x1 x2 x3 x4 x5 x6 x7 x8 x9 x10 x11 x12 x13 x14 x15 x16 x17 x18 x19 x0 [] 0 0 [] [] [] [] [] 0 0 [] 0 x13 x14 [] 0 0 0 0 else false) else (bif ieq x0 5 then (bif keyB x15 then bareB x0 x1 x2 x3 x4 x5 x6 x7 x8 x9 x10 x11 x12 x13 x14 x15 x16 x17 x18 x19 x0 [] 0 0 [] [] [] [] [] 0 0 [] 0 0 [] x15 0 0 0 0 else false) else (bif ieq x0 6 then (bif infoB x16 x17 x18 x19 then bareB x0 x1 x2 x3 x4 x5 x6 x7 x8 x9 x10 x11 x12 x13 x14 x15 x16 x17 x18 x19 x0 [] 0 0 [] [] [] [] [] 0 0 [] 0 0 [] [] x16 x17 x18 x19 else false) else (false)))))))
theorem f9 {α : Type} (k : Nat) (hk : 100 ≤ k) (x0 : Int) (x1 : LB) (x2 : Int) (x3 : Int) (x4 : LR) (x5 : LR) (x6 : LB) (x7 : LB) (x8 : LB) (x9 : Int) (x10 : Int) (x11 : LR) (x12 : Int) (x13 : Int) (x14 : LR) (x15 : LB) (x16 : Int) (x17 : Int) (x18 : Int) (x19 : Int) (K : Bool → Option α) : f9a k x0 x1 x2 x3 x4 x5 x6 x7 x8 x9 x10 x11 x12 x13 x14 x15 x16 x17 x18 x19 K = K (mayA x0 x1 x2 x3 x4 x5 x6 x7 x8 x9 x10 x11 x12 x13 x14 x15 x16 x17 x18 x19) := by
  have h9 : h9a_0 x0 x1 x10 x11 x12 x13 x14 x15 x16 x17 x18 x19 x2 x3 x4 x5 x6 x7 x8 x9 = true := by unfold h9a_0; exact sameOs_self (by intro o ho; simp only [List.mem_singleton] at ho; exact ⟨_, ho⟩)
  unfold f9a T9a mayA
  simp only [f25 k hk, f26 k (by omega : 95 ≤ k), f27 k (by omega : 95 ≤ k), f28 k hk, f29 k hk, f30 k (by omega : 95 ≤ k), f31, e32a, e32b, e32c, e32d, h9, cond_true, push2 K]
/-- an action's row -/
def mayRow (r : List AV) : Bool := mayA (toI (lget r 0 .unk)) (toS (lget r 1 .unk)) (toI (lget r 2 .unk)) (toI (lget r 3 .unk)) (toR (lget r 4 .unk)) (toR (lget r 5 .unk)) (toS (lget r 6 .unk)) (toS (lget r 7 .unk)) (toS (lget r 8 .unk)) (toI (lget r 9 .unk)) (toI (lget r 10 .unk)) (toR (lget r 11 .unk)) (toI (lget r 12 .unk)) (toI (lget r 13 .unk)) (toR (lget r 14 .unk)) (toS (lget r 15 .unk)) (toI (lget r 16 .unk)) (toI (lget r 17 .unk)) (toI (lget r 18 .unk)) (toI (lget r 19 .unk))
end Go.AI

/-
  PLAIN LAWS: actions as JSON.
-/
set_option maxRecDepth 100000
set_option linter.unusedVariables false
set_option linter.unusedSimpArgs false
namespace Go.AI
open Go.Proofs

/-- a JSON value -/
inductive J where
  | null | bool (b : Bool) | int (n : Int) | text (s : LB) | list (l : List J) | obj (ks : List LB) (l : List J)
def keyRow (k : LB) : List AV := [.s k]
mutual
def row : J → List AV
  | .null => [.i .i64 0, .b false, .i .i64 0, .s [], .lst 83 [] .view, .lst 9 [] .view]
  | .bool b => [.i .i64 1, .b b, .i .i64 0, .s [], .lst 83 [] .view, .lst 9 [] .view]
  | .int n => [.i .i64 2, .b false, .i .i64 n, .s [], .lst 83 [] .view, .lst 9 [] .view]
  | .text s => [.i .i64 3, .b false, .i .i64 0, .s s, .lst 83 [] .view, .lst 9 [] .view]
  | .list l => [.i .i64 4, .b false, .i .i64 0, .s [], .lst 83 (rowsJ l) .view, .lst 9 [] .view]
  | .obj ks l => [.i .i64 5, .b false, .i .i64 0, .s [], .lst 83 (rowsJ l) .view, .lst 9 (ks.map keyRow) .view]
def rowsJ : List J → LR
  | [] => []
  | j :: l => row j :: rowsJ l
end
theorem rowsJ_map : ∀ l : List J, rowsJ l = l.map row
  | [] => by simp [rowsJ]
  | j :: l => by simp [rowsJ, rowsJ_map l]
theorem rowsJ_len (l : List J) : (rowsJ l).length = l.length := by rw [rowsJ_map]; simp
theorem rowsJ_app (l m : List J) : rowsJ (l ++ m) = rowsJ l ++ rowsJ m := by simp [rowsJ_map]
def pairRow (p : LB × J) : List AV := .s p.1 :: row p.2
theorem row_back (j : J) (k : LB) : [AV.i .i64 (toI (lget (.s k :: row j) 1 .unk)), .b (toB (lget (.s k :: row j) 2 .unk)), .i .i64 (toI (lget (.s k :: row j) 3 .unk)), .s (toS (lget (.s k :: row j) 4 .unk)), .lst 83 (toR (lget (.s k :: row j) 5 .unk)) .view, .lst 9 (toR (lget (.s k :: row j) 6 .unk)) .view] = row j := by
  cases j <;> simp only [row, lget, toI, toB, toS, toR]
theorem room_in {n b : Nat} (h : n * b ≤ 140737488355328) : room n b = true := Nat.ble_eq_true_of_le h
theorem obj_run {α : Type} (k : Nat) (K : LR → LR → Option α) : ∀ (l : List (LB × J)) (f : Nat) (pre : List (LB × J)), l.length < f → (pre ++ l).length ≤ 1000 →
    L113al0 k K ((pre ++ l).map pairRow) f (pre.length : Int) (rowsJ (pre.map (·.2))) (pre.map fun p => keyRow p.1) = K (rowsJ ((pre ++ l).map (·.2))) ((pre ++ l).map fun p => keyRow p.1) := by
  intro l
  induction l with
  | nil =>
    intro f pre hf hb
    obtain ⟨f, rfl⟩ : ∃ g, f = g + 1 := ⟨f - 1, by omega⟩
    have : ilt (pre.length : Int) (rlen ((pre ++ []).map pairRow)) = false := by simp [ilt, rlen]
    simp only [L113al0, T113al0, this, cond_false]
    simp only [List.append_nil]
  | cons p l ih =>
    intro f pre hf hb
    obtain ⟨f, rfl⟩ : ∃ g, f = g + 1 := ⟨f - 1, by omega⟩
    have hl : (pre ++ p :: l).length = pre.length + (l.length + 1) := by simp
    have e0 : (pre ++ p :: l).map pairRow = pre.map pairRow ++ pairRow p :: l.map pairRow := by simp
    have e1 : ilt (pre.length : Int) (rlen ((pre ++ p :: l).map pairRow)) = true := by simp [ilt, rlen]; omega
    have e2 : rget ((pre ++ p :: l).map pairRow) (pre.length : Int) = pairRow p := by
      rw [e0, show (pre.length : Int) = ((pre.map pairRow).length : Int) by simp]; exact rget_pre _ _ _
    have e3 : room ((pre.map fun p => keyRow p.1).length + 1) 16 = true := room_in (by simp; omega)
    have e4 : room ((rowsJ (pre.map (·.2))).length + 1) 88 = true := room_in (by rw [rowsJ_len]; simp; omega)
    have e5 : h113a_0 (rowsJ (pre.map (·.2))) (pre.length : Int) ((pre ++ p :: l).map pairRow) = rowsJ ((pre ++ [p]).map (·.2)) := by
      unfold h113a_0
      rw [e2]
      unfold pairRow
      rw [row_back]
      simp [rowsJ_map, radd]
    have e6 : radd (pre.map fun p => keyRow p.1) [[.s (toS (lget (pairRow p) 0 .unk))]] = (pre ++ [p]).map fun p => keyRow p.1 := by
      simp [radd, pairRow, lget, toS, keyRow]
    simp only [L113al0, T113al0, e1, ile_pre, e3, e4, cond_true, e5, e2, e6, wadd_pre pre p (by omega)]
    rw [app_snoc pre p l]
    exact ih f (pre ++ [p]) (by simpa using hf) (by rw [← app_snoc]; exact hb)
theorem f113 {α : Type} (k : Nat) (ps : List (LB × J)) (hk : ps.length < k) (hb : ps.length ≤ 1000) (K : LR → LR → Option α) : f113a k (ps.map pairRow) K = K (rowsJ (ps.map (·.2))) (ps.map fun p => keyRow p.1) := by
  unfold f113a T113a
  exact obj_run k K ps k [] hk (by simpa using hb)

def scalarJ (x0 x1 : Int) (x2 : Bool) (x3 : LB) : J := bif ieq x0 1 then .int x1 else (bif ieq x0 2 then .bool x2 else (bif ieq x0 3 then .text x3 else .null))
def valJ (r : List AV) : J := scalarJ (toI (lget r 0 .unk)) (toI (lget r 1 .unk)) (toB (lget r 2 .unk)) (toS (lget r 3 .unk))
/-- a scalar's four parts -/
def sK (j : J) : Int := toI (lget (row j) 0 .unk)
def sB (j : J) : Bool := toB (lget (row j) 1 .unk)
def sN (j : J) : Int := toI (lget (row j) 2 .unk)
def sS (j : J) : LB := toS (lget (row j) 3 .unk)
theorem f117 {α : Type} (k : Nat) (x0 x1 : Int) (x2 : Bool) (x3 : LB) (K : Int → Bool → Int → LB → Option α) : f117a k x0 x1 x2 x3 K = K (sK (scalarJ x0 x1 x2 x3)) (sB (scalarJ x0 x1 x2 x3)) (sN (scalarJ x0 x1 x2 x3)) (sS (scalarJ x0 x1 x2 x3)) := by
  unfold f117a T117a scalarJ
  cases ieq x0 1
  · cases ieq x0 2
    · cases ieq x0 3 <;> rfl
    · rfl
  · rfl
theorem scalar_row (x0 x1 : Int) (x2 : Bool) (x3 : LB) : [AV.i .i64 (sK (scalarJ x0 x1 x2 x3)), .b (sB (scalarJ x0 x1 x2 x3)), .i .i64 (sN (scalarJ x0 x1 x2 x3)), .s (sS (scalarJ x0 x1 x2 x3)), .lst 83 [] .view, .lst 9 [] .view] = row (scalarJ x0 x1 x2 x3) := by
  unfold scalarJ
  cases ieq x0 1
  · cases ieq x0 2
    · cases ieq x0 3 <;> rfl
    · rfl
  · rfl
def objJ (ps : List (LB × J)) : J := .obj (ps.map (·.1)) (ps.map (·.2))
theorem row_objJ (ps : List (LB × J)) : [AV.i .i64 5, .b false, .i .i64 0, .s [], .lst 83 (rowsJ (ps.map (·.2))) .view, .lst 9 (ps.map fun p => keyRow p.1) .view] = row (objJ ps) := by
  simp [objJ, row]
def statPs (x0 x1 x2 x3 : Int) (x4 : Bool) (x5 : LB) (x6 x7 : Int) (x8 : Bool) (x9 : LB) : List (LB × J) := [([99, 111, 108], .int x0), ([110, 117, 108, 108, 115], .int x1), ([109, 105, 110], scalarJ x2 x3 x4 x5), ([109, 97, 120], scalarJ x6 x7 x8 x9)]
theorem f119 {α : Type} (k : Nat) (hk : 10 ≤ k) (x0 x1 x2 x3 : Int) (x4 : Bool) (x5 : LB) (x6 x7 : Int) (x8 : Bool) (x9 : LB) (K : LR → LR → Option α) : f119a k x0 x1 x2 x3 x4 x5 x6 x7 x8 x9 K = K (rowsJ ((statPs x0 x1 x2 x3 x4 x5 x6 x7 x8 x9).map (·.2))) ((statPs x0 x1 x2 x3 x4 x5 x6 x7 x8 x9).map fun p => keyRow p.1) := by
  unfold f119a T119a
  simp only [f115a, T115a, f117]
  simp only [scalar_row]
  exact f113 k (statPs x0 x1 x2 x3 x4 x5 x6 x7 x8 x9) (by simp only [statPs, List.length_cons, List.length_nil]; omega) (by simp only [statPs, List.length_cons, List.length_nil]; omega) K
def statJ (r : List AV) : J := objJ (statPs (toI (lget r 0 .unk)) (toI (lget r 1 .unk)) (toI (lget r 2 .unk)) (toI (lget r 3 .unk)) (toB (lget r 4 .unk)) (toS (lget r 5 .unk)) (toI (lget r 6 .unk)) (toI (lget r 7 .unk)) (toB (lget r 8 .unk)) (toS (lget r 9 .unk)))
def colPs (x0 : Int) (x1 : LB) (x2 : Int) : List (LB × J) := [([105, 100], .int x0), ([110, 97, 109, 101], .text x1), ([107, 105, 110, 100], .int x2)]
theorem f121 {α : Type} (k : Nat) (hk : 10 ≤ k) (x0 : Int) (x1 : LB) (x2 : Int) (K : LR → LR → Option α) : f121a k x0 x1 x2 K = K (rowsJ ((colPs x0 x1 x2).map (·.2))) ((colPs x0 x1 x2).map fun p => keyRow p.1) := by
  unfold f121a T121a
  simp only [f115a, T115a, f114a, T114a]
  exact f113 k (colPs x0 x1 x2) (by simp only [colPs, List.length_cons, List.length_nil]; omega) (by simp only [colPs, List.length_cons, List.length_nil]; omega) K
def colJ (r : List AV) : J := objJ (colPs (toI (lget r 0 .unk)) (toS (lget r 1 .unk)) (toI (lget r 2 .unk)))
def fieldPs (x0 x1 x2 : Int) : List (LB × J) := [([115, 111, 117, 114, 99, 101], .int x0), ([116, 114, 97, 110, 115], .int x1), ([112, 97, 114, 97, 109], .int x2)]
theorem f123 {α : Type} (k : Nat) (hk : 10 ≤ k) (x0 x1 x2 : Int) (K : LR → LR → Option α) : f123a k x0 x1 x2 K = K (rowsJ ((fieldPs x0 x1 x2).map (·.2))) ((fieldPs x0 x1 x2).map fun p => keyRow p.1) := by
  unfold f123a T123a
  simp only [f115a, T115a]
  exact f113 k (fieldPs x0 x1 x2) (by simp only [fieldPs, List.length_cons, List.length_nil]; omega) (by simp only [fieldPs, List.length_cons, List.length_nil]; omega) K
def fieldJ (r : List AV) : J := objJ (fieldPs (toI (lget r 0 .unk)) (toI (lget r 1 .unk)) (toI (lget r 2 .unk)))
theorem run116 {α : Type} (k : Nat) (hk : 10 ≤ k) (K : LR → Option α) : ∀ (l : LR) (f : Nat) (pre : LR), l.length < f → (pre ++ l).length ≤ 1000000000000 →
    L116al0 k K (pre ++ l) f (pre.length : Int) (rowsJ (pre.map valJ)) = K (rowsJ ((pre ++ l).map valJ)) := by
  intro l
  induction l with
  | nil =>
    intro f pre hf hb
    obtain ⟨f, rfl⟩ : ∃ g, f = g + 1 := ⟨f - 1, by omega⟩
    simp only [L116al0, T116al0, ilt_end, cond_false]
    simp only [List.append_nil]
  | cons r l ih =>
    intro f pre hf hb
    obtain ⟨f, rfl⟩ : ∃ g, f = g + 1 := ⟨f - 1, by omega⟩
    have hl : (pre ++ r :: l).length = pre.length + (l.length + 1) := by simp
    have e4 : room ((rowsJ (pre.map valJ)).length + 1) 88 = true := room_in (by rw [rowsJ_len]; simp; omega)
    have e5 : radd (rowsJ (pre.map valJ)) [row (valJ r)] = rowsJ ((pre ++ [r]).map valJ) := by simp [rowsJ_map, radd]
    simp only [L116al0, T116al0, ilt_pre, ile_pre, rget_pre, cond_true, f117, e4, wadd_pre pre r (by omega)]
    rw [scalar_row]
    rw [show valJ r = valJ r from rfl] at e5
    refine (congrArg _ ?_).trans ((congrArg (fun x => L116al0 k K x f _ _) (app_snoc pre r l)).trans (ih f (pre ++ [r]) (by simpa using hf) (by rw [← app_snoc]; exact hb))) |>.trans (by rw [← app_snoc])
    exact e5
theorem f116 {α : Type} (k : Nat) (x : LR) (hk : 10 ≤ k) (hx : x.length < k) (hb : x.length ≤ 1000000000000) (K : LR → Option α) : f116a k x K = K (rowsJ (x.map valJ)) := by
  unfold f116a T116a
  exact run116 k hk K x k [] hx (by simpa using hb)
theorem run118 {α : Type} (k : Nat) (hk : 10 ≤ k) (K : LR → Option α) : ∀ (l : LR) (f : Nat) (pre : LR), l.length < f → (pre ++ l).length ≤ 1000000000000 →
    L118al0 k K (pre ++ l) f (pre.length : Int) (rowsJ (pre.map statJ)) = K (rowsJ ((pre ++ l).map statJ)) := by
  intro l
  induction l with
  | nil =>
    intro f pre hf hb
    obtain ⟨f, rfl⟩ : ∃ g, f = g + 1 := ⟨f - 1, by omega⟩
    simp only [L118al0, T118al0, ilt_end, cond_false]
    simp only [List.append_nil]
  | cons r l ih =>
    intro f pre hf hb
    obtain ⟨f, rfl⟩ : ∃ g, f = g + 1 := ⟨f - 1, by omega⟩
    have hl : (pre ++ r :: l).length = pre.length + (l.length + 1) := by simp
    have e4 : room ((rowsJ (pre.map statJ)).length + 1) 88 = true := room_in (by rw [rowsJ_len]; simp; omega)
    have e5 : radd (rowsJ (pre.map statJ)) [row (statJ r)] = rowsJ ((pre ++ [r]).map statJ) := by simp [rowsJ_map, radd]
    simp only [L118al0, T118al0, ilt_pre, ile_pre, rget_pre, cond_true, f119 k hk, e4, wadd_pre pre r (by omega)]
    rw [row_objJ]
    rw [show statJ r = statJ r from rfl] at e5
    refine (congrArg _ ?_).trans ((congrArg (fun x => L118al0 k K x f _ _) (app_snoc pre r l)).trans (ih f (pre ++ [r]) (by simpa using hf) (by rw [← app_snoc]; exact hb))) |>.trans (by rw [← app_snoc])
    exact e5
theorem f118 {α : Type} (k : Nat) (x : LR) (hk : 10 ≤ k) (hx : x.length < k) (hb : x.length ≤ 1000000000000) (K : LR → Option α) : f118a k x K = K (rowsJ (x.map statJ)) := by
  unfold f118a T118a
  exact run118 k hk K x k [] hx (by simpa using hb)
theorem run120 {α : Type} (k : Nat) (hk : 10 ≤ k) (K : LR → Option α) : ∀ (l : LR) (f : Nat) (pre : LR), l.length < f → (pre ++ l).length ≤ 1000000000000 →
    L120al0 k K (pre ++ l) f (pre.length : Int) (rowsJ (pre.map colJ)) = K (rowsJ ((pre ++ l).map colJ)) := by
  intro l
  induction l with
  | nil =>
    intro f pre hf hb
    obtain ⟨f, rfl⟩ : ∃ g, f = g + 1 := ⟨f - 1, by omega⟩
    simp only [L120al0, T120al0, ilt_end, cond_false]
    simp only [List.append_nil]
  | cons r l ih =>
    intro f pre hf hb
    obtain ⟨f, rfl⟩ : ∃ g, f = g + 1 := ⟨f - 1, by omega⟩
    have hl : (pre ++ r :: l).length = pre.length + (l.length + 1) := by simp
    have e4 : room ((rowsJ (pre.map colJ)).length + 1) 88 = true := room_in (by rw [rowsJ_len]; simp; omega)
    have e5 : radd (rowsJ (pre.map colJ)) [row (colJ r)] = rowsJ ((pre ++ [r]).map colJ) := by simp [rowsJ_map, radd]
    simp only [L120al0, T120al0, ilt_pre, ile_pre, rget_pre, cond_true, f121 k hk, e4, wadd_pre pre r (by omega)]
    rw [row_objJ]
    rw [show colJ r = colJ r from rfl] at e5
    refine (congrArg _ ?_).trans ((congrArg (fun x => L120al0 k K x f _ _) (app_snoc pre r l)).trans (ih f (pre ++ [r]) (by simpa using hf) (by rw [← app_snoc]; exact hb))) |>.trans (by rw [← app_snoc])
    exact e5
theorem f120 {α : Type} (k : Nat) (x : LR) (hk : 10 ≤ k) (hx : x.length < k) (hb : x.length ≤ 1000000000000) (K : LR → Option α) : f120a k x K = K (rowsJ (x.map colJ)) := by
  unfold f120a T120a
  exact run120 k hk K x k [] hx (by simpa using hb)
theorem run122 {α : Type} (k : Nat) (hk : 10 ≤ k) (K : LR → Option α) : ∀ (l : LR) (f : Nat) (pre : LR), l.length < f → (pre ++ l).length ≤ 1000000000000 →
    L122al0 k K (pre ++ l) f (pre.length : Int) (rowsJ (pre.map fieldJ)) = K (rowsJ ((pre ++ l).map fieldJ)) := by
  intro l
  induction l with
  | nil =>
    intro f pre hf hb
    obtain ⟨f, rfl⟩ : ∃ g, f = g + 1 := ⟨f - 1, by omega⟩
    simp only [L122al0, T122al0, ilt_end, cond_false]
    simp only [List.append_nil]
  | cons r l ih =>
    intro f pre hf hb
    obtain ⟨f, rfl⟩ : ∃ g, f = g + 1 := ⟨f - 1, by omega⟩
    have hl : (pre ++ r :: l).length = pre.length + (l.length + 1) := by simp
    have e4 : room ((rowsJ (pre.map fieldJ)).length + 1) 88 = true := room_in (by rw [rowsJ_len]; simp; omega)
    have e5 : radd (rowsJ (pre.map fieldJ)) [row (fieldJ r)] = rowsJ ((pre ++ [r]).map fieldJ) := by simp [rowsJ_map, radd]
    simp only [L122al0, T122al0, ilt_pre, ile_pre, rget_pre, cond_true, f123 k hk, e4, wadd_pre pre r (by omega)]
    rw [row_objJ]
    rw [show fieldJ r = fieldJ r from rfl] at e5
    refine (congrArg _ ?_).trans ((congrArg (fun x => L122al0 k K x f _ _) (app_snoc pre r l)).trans (ih f (pre ++ [r]) (by simpa using hf) (by rw [← app_snoc]; exact hb))) |>.trans (by rw [← app_snoc])
    exact e5
theorem f122 {α : Type} (k : Nat) (x : LR) (hk : 10 ≤ k) (hx : x.length < k) (hb : x.length ≤ 1000000000000) (K : LR → Option α) : f122a k x K = K (rowsJ (x.map fieldJ)) := by
  unfold f122a T122a
  exact run122 k hk K x k [] hx (by simpa using hb)
/-- an action's one pair -/
def onePs (x0 : Int) (x1 : LB) (x2 : Int) (x3 : Int) (x4 : LR) (x5 : LR) (x6 : LB) (x7 : LB) (x8 : LB) (x9 : Int) (x10 : Int) (x11 : LR) (x12 : Int) (x13 : Int) (x14 : LR) (x15 : LB) (x16 : Int) (x17 : Int) (x18 : Int) (x19 : Int) : List (LB × J) := bif ieq x0 0 then [([97, 100, 100], objJ [([112, 97, 116, 104], .text x1), ([114, 111, 119, 115], .int x2), ([115, 112, 101, 99], .int x3), ([112, 97, 114, 116], .list (x4.map valJ)), ([115, 116, 97, 116, 115], .list (x5.map statJ))])] else (bif ieq x0 1 then [([114, 101, 109, 111, 118, 101], .text x6)] else (bif ieq x0 2 then [([109, 97, 114, 107], objJ [([112, 97, 116, 104], .text x7), ([102, 105, 108, 101], .text x8), ([114, 111, 119, 115], .int x9)])] else (bif ieq x0 3 then [([115, 99, 104, 101, 109, 97], objJ [([105, 100], .int x10), ([110, 101, 120, 116], .int x12), ([99, 111, 108, 117, 109, 110, 115], .list (x11.map colJ))])] else (bif ieq x0 4 then [([115, 112, 101, 99], objJ [([105, 100], .int x13), ([102, 105, 101, 108, 100, 115], .list (x14.map fieldJ))])] else (bif ieq x0 5 then [([116, 120, 110], .text x15)] else ([([105, 110, 102, 111], objJ [([99, 108, 105, 101, 110, 116], .int x16), ([115, 101, 113], .int x17), ([111, 112], .int x18), ([116, 105, 109, 101], .int x19)])]))))))
end Go.AI

/-
  PLAIN LAWS: actions as JSON, the rest.
-/
set_option maxRecDepth 100000
set_option linter.unusedVariables false
set_option linter.unusedSimpArgs false
namespace Go.AI
open Go.Proofs
theorem f70 {α : Type} (k : Nat) (hk : 10 ≤ k) (hk2 : k ≤ 1000000000000) (x0 : Int) (x1 : LB) (x2 : Int) (x3 : Int) (x4 : LR) (x5 : LR) (x6 : LB) (x7 : LB) (x8 : LB) (x9 : Int) (x10 : Int) (x11 : LR) (x12 : Int) (x13 : Int) (x14 : LR) (x15 : LB) (x16 : Int) (x17 : Int) (x18 : Int) (x19 : Int) (h4 : x4.length < k) (h5 : x5.length < k) (h11 : x11.length < k) (h14 : x14.length < k) (K : LR → LR → Option α) :
    f70a k x0 x1 x2 x3 x4 x5 x6 x7 x8 x9 x10 x11 x12 x13 x14 x15 x16 x17 x18 x19 K = K (rowsJ ((onePs x0 x1 x2 x3 x4 x5 x6 x7 x8 x9 x10 x11 x12 x13 x14 x15 x16 x17 x18 x19).map (·.2))) ((onePs x0 x1 x2 x3 x4 x5 x6 x7 x8 x9 x10 x11 x12 x13 x14 x15 x16 x17 x18 x19).map fun p => keyRow p.1) := by
  unfold f70a T70a onePs
  simp only [f115a, T115a, f114a, T114a]
  cases h0 : ieq x0 0
  · cases h1 : ieq x0 1
    · cases h2 : ieq x0 2
      · cases h3 : ieq x0 3
        · cases h4 : ieq x0 4
          · cases h5 : ieq x0 5
            · simp only [cond_false]
              refine (f113 k [([99, 108, 105, 101, 110, 116], J.int x16), ([115, 101, 113], J.int x17), ([111, 112], J.int x18), ([116, 105, 109, 101], J.int x19)] (by simp only [List.length_cons, List.length_nil]; omega) (by simp only [List.length_cons, List.length_nil]; omega) _).trans ?_
              exact f113 k [(([105, 110, 102, 111] : LB), objJ [([99, 108, 105, 101, 110, 116], J.int x16), ([115, 101, 113], J.int x17), ([111, 112], J.int x18), ([116, 105, 109, 101], J.int x19)])] (by simp only [List.length_cons, List.length_nil]; omega) (by simp only [List.length_cons, List.length_nil]; omega) K
            · simp only [cond_false, cond_true]
              exact f113 k [([116, 120, 110], J.text x15)] (by simp only [List.length_cons, List.length_nil]; omega) (by simp only [List.length_cons, List.length_nil]; omega) K
          · simp only [cond_false, cond_true]
            rw [f122 k x14 hk h14 (by omega)]
            refine (f113 k [([105, 100], J.int x13), ([102, 105, 101, 108, 100, 115], J.list (x14.map fieldJ))] (by simp only [List.length_cons, List.length_nil]; omega) (by simp only [List.length_cons, List.length_nil]; omega) _).trans ?_
            exact f113 k [(([115, 112, 101, 99] : LB), objJ [([105, 100], J.int x13), ([102, 105, 101, 108, 100, 115], J.list (x14.map fieldJ))])] (by simp only [List.length_cons, List.length_nil]; omega) (by simp only [List.length_cons, List.length_nil]; omega) K
        · simp only [cond_false, cond_true]
          rw [f120 k x11 hk h11 (by omega)]
          refine (f113 k [([105, 100], J.int x10), ([110, 101, 120, 116], J.int x12), ([99, 111, 108, 117, 109, 110, 115], J.list (x11.map colJ))] (by simp only [List.length_cons, List.length_nil]; omega) (by simp only [List.length_cons, List.length_nil]; omega) _).trans ?_
          exact f113 k [(([115, 99, 104, 101, 109, 97] : LB), objJ [([105, 100], J.int x10), ([110, 101, 120, 116], J.int x12), ([99, 111, 108, 117, 109, 110, 115], J.list (x11.map colJ))])] (by simp only [List.length_cons, List.length_nil]; omega) (by simp only [List.length_cons, List.length_nil]; omega) K
      · simp only [cond_false, cond_true]
        refine (f113 k [([112, 97, 116, 104], J.text x7), ([102, 105, 108, 101], J.text x8), ([114, 111, 119, 115], J.int x9)] (by simp only [List.length_cons, List.length_nil]; omega) (by simp only [List.length_cons, List.length_nil]; omega) _).trans ?_
        exact f113 k [(([109, 97, 114, 107] : LB), objJ [([112, 97, 116, 104], J.text x7), ([102, 105, 108, 101], J.text x8), ([114, 111, 119, 115], J.int x9)])] (by simp only [List.length_cons, List.length_nil]; omega) (by simp only [List.length_cons, List.length_nil]; omega) K
    · simp only [cond_false, cond_true]
      exact f113 k [([114, 101, 109, 111, 118, 101], J.text x6)] (by simp only [List.length_cons, List.length_nil]; omega) (by simp only [List.length_cons, List.length_nil]; omega) K
  · simp only [cond_false, cond_true]
    rw [f116 k x4 hk h4 (by omega)]
    rw [f118 k x5 hk h5 (by omega)]
    refine (f113 k [([112, 97, 116, 104], J.text x1), ([114, 111, 119, 115], J.int x2), ([115, 112, 101, 99], J.int x3), ([112, 97, 114, 116], J.list (x4.map valJ)), ([115, 116, 97, 116, 115], J.list (x5.map statJ))] (by simp only [List.length_cons, List.length_nil]; omega) (by simp only [List.length_cons, List.length_nil]; omega) _).trans ?_
    exact f113 k [(([97, 100, 100] : LB), objJ [([112, 97, 116, 104], J.text x1), ([114, 111, 119, 115], J.int x2), ([115, 112, 101, 99], J.int x3), ([112, 97, 114, 116], J.list (x4.map valJ)), ([115, 116, 97, 116, 115], J.list (x5.map statJ))])] (by simp only [List.length_cons, List.length_nil]; omega) (by simp only [List.length_cons, List.length_nil]; omega) K
def oneJ (r : List AV) : J := objJ (onePs (toI (lget r 0 .unk)) (toS (lget r 1 .unk)) (toI (lget r 2 .unk)) (toI (lget r 3 .unk)) (toR (lget r 4 .unk)) (toR (lget r 5 .unk)) (toS (lget r 6 .unk)) (toS (lget r 7 .unk)) (toS (lget r 8 .unk)) (toI (lget r 9 .unk)) (toI (lget r 10 .unk)) (toR (lget r 11 .unk)) (toI (lget r 12 .unk)) (toI (lget r 13 .unk)) (toR (lget r 14 .unk)) (toS (lget r 15 .unk)) (toI (lget r 16 .unk)) (toI (lget r 17 .unk)) (toI (lget r 18 .unk)) (toI (lget r 19 .unk)))
/-- the lists of an action's row are short -/
def shortRow (k : Nat) (r : List AV) : Prop := (toR (lget r 4 .unk)).length < k ∧ (toR (lget r 5 .unk)).length < k ∧ (toR (lget r 11 .unk)).length < k ∧ (toR (lget r 14 .unk)).length < k
theorem run69 {α : Type} (k : Nat) (hk : 10 ≤ k) (hk2 : k ≤ 1000000000000) (K : LR → Option α) : ∀ (l : LR) (f : Nat) (pre : LR), l.length < f → (pre ++ l).length ≤ 1000000000000 → (∀ r ∈ l, shortRow k r) →
    L69al0 k K (pre ++ l) f (pre.length : Int) (rowsJ (pre.map oneJ)) = K (rowsJ ((pre ++ l).map oneJ)) := by
  intro l
  induction l with
  | nil =>
    intro f pre hf hb hs
    obtain ⟨f, rfl⟩ : ∃ g, f = g + 1 := ⟨f - 1, by omega⟩
    simp only [L69al0, T69al0, ilt_end, cond_false]
    simp only [List.append_nil]
  | cons r l ih =>
    intro f pre hf hb hs
    obtain ⟨f, rfl⟩ : ∃ g, f = g + 1 := ⟨f - 1, by omega⟩
    have hl : (pre ++ r :: l).length = pre.length + (l.length + 1) := by simp
    have e4 : room ((rowsJ (pre.map oneJ)).length + 1) 88 = true := room_in (by rw [rowsJ_len]; simp; omega)
    have e5 : radd (rowsJ (pre.map oneJ)) [row (oneJ r)] = rowsJ ((pre ++ [r]).map oneJ) := by simp [rowsJ_map, radd]
    obtain ⟨s4, s5, s11, s14⟩ := hs r (by simp)
    simp only [L69al0, T69al0, ilt_pre, ile_pre, rget_pre, cond_true, e4, wadd_pre pre r (by omega)]
    rw [f70 k hk hk2 _ _ _ _ _ _ _ _ _ _ _ _ _ _ _ _ _ _ _ _ s4 s5 s11 s14]
    rw [row_objJ]
    refine (congrArg _ ?_).trans ((congrArg (fun x => L69al0 k K x f _ _) (app_snoc pre r l)).trans (ih f (pre ++ [r]) (by simpa using hf) (by rw [← app_snoc]; exact hb) fun q hq => hs q (by simp [hq]))) |>.trans (by rw [← app_snoc])
    exact e5
theorem f42 {α : Type} (k : Nat) (hk : 10 ≤ k) (hk2 : k ≤ 1000000000000) (x : LR) (hx : x.length < k) (hs : ∀ r ∈ x, shortRow k r) (K : LR → Option α) : f42a k x K = K (rowsJ (x.map oneJ)) := by
  unfold f42a T42a f69a T69a
  exact run69 k hk hk2 _ x k [] hx (by simp; omega) hs
end Go.AI

/-
  PLAIN LAWS: texts as they are printed.
-/
set_option maxRecDepth 100000
set_option linter.unusedVariables false
set_option linter.unusedSimpArgs false
namespace Go.AI
open Go.Proofs

/-- what adds to the text that is printed, or finds it too long -/
def Adds (F : (α : Type) → (LR → Option α) → (Int → LR → Option α) → Option α) (o t : LB) : Prop :=
  ((o ++ t).length ≤ 65536 ∧ ∀ (α : Type) (K : LR → Option α) (E : Int → LR → Option α), F α K E = K (byteRows (o ++ t))) ∨
  (65536 < (o ++ t).length ∧ ∃ (e : Int) (o' : LR), e ≠ 0 ∧ ∀ (α : Type) (K : LR → Option α) (E : Int → LR → Option α), F α K E = E e o')
theorem Adds.seq {F : (α : Type) → (LR → Option α) → (Int → LR → Option α) → Option α} {G : (α : Type) → LR → (LR → Option α) → (Int → LR → Option α) → Option α} {o t u : LB}
    (hF : Adds F o t) (hG : (o ++ t).length ≤ 65536 → Adds (fun α K E => G α (byteRows (o ++ t)) K E) (o ++ t) u) : Adds (fun α K E => F α (fun y => G α y K E) E) o (t ++ u) := by
  rcases hF with ⟨h1, h2⟩ | ⟨h1, e, o', he, h2⟩
  · rcases hG h1 with ⟨g1, g2⟩ | ⟨g1, e, o', he, g2⟩
    · refine .inl ⟨by rw [← List.append_assoc]; exact g1, fun α K E => ?_⟩
      refine (h2 α _ E).trans ?_
      rw [← List.append_assoc]; exact g2 α K E
    · refine .inr ⟨by rw [← List.append_assoc]; exact g1, e, o', he, fun α K E => ?_⟩
      exact (h2 α _ E).trans (g2 α K E)
  · refine .inr ⟨by simp only [List.length_append] at h1 ⊢; omega, e, o', he, fun α K E => h2 α _ E⟩
theorem Adds.congr {F F' : (α : Type) → (LR → Option α) → (Int → LR → Option α) → Option α} {o t : LB} (h : Adds F o t) (e : ∀ α K E, F' α K E = F α K E) : Adds F' o t := by
  have : F' = F := by funext α K E; exact e α K E
  rw [this]; exact h

theorem byteRows_app : ∀ a b : LB, radd (byteRows a) (byteRows b) = byteRows (a ++ b)
  | [], b => rfl
  | c :: a, b => by
    have := byteRows_app a b
    simp only [radd] at this ⊢
    simp [byteRows, this]
theorem bytes_back : ∀ a : LB, bytesOf (byteRows a) = a
  | [] => rfl
  | c :: a => by simp [bytesOf, byteRows, lget, toI, bytes_back a]
theorem adds108 (k : Nat) (x o : LB) (ho : o.length ≤ 65536) (hx : x.length ≤ 1000000000000) : Adds (fun α K E => f108a k x (byteRows o) K E) o x := by
  have hr : room ((byteRows o).length + x.length) 1 = true := room_in (by rw [byteRows_length]; omega)
  unfold Adds
  simp only [f108a, T108a, hr, cond_true, byteRows_app]
  by_cases h : (o ++ x).length ≤ 65536
  · have : igt (rlen (byteRows (o ++ x))) 65536 = false := by simp only [igt, rlen, byteRows_length]; exact decide_eq_false (by omega)
    exact .inl ⟨h, fun α K E => by rw [this]; rfl⟩
  · have : igt (rlen (byteRows (o ++ x))) 65536 = true := by simp only [igt, rlen, byteRows_length]; exact decide_eq_true (by omega)
    exact .inr ⟨by omega, 302, _, by decide, fun α K E => by rw [this]; rfl⟩

/-- a byte as it stands in a JSON text -/
noncomputable def esc (c : UInt8) : LB :=
  bif (bif ieq (c.toNat : Int) 34 then true else ieq (c.toNat : Int) 92) then bytesOf [[.i .u8 92], [.i .u8 (c.toNat : Int)]] else (bif ieq (c.toNat : Int) 8 then [92, 98] else (bif ieq (c.toNat : Int) 12 then [92, 102] else (bif ieq (c.toNat : Int) 10 then [92, 110]
    else (bif ieq (c.toNat : Int) 13 then [92, 114] else (bif ieq (c.toNat : Int) 9 then [92, 116] else (bif ilt (c.toNat : Int) 32 then sadd [92, 117, 48, 48] (h111a_1 (c.toNat : Int)) else [c]))))))
theorem esc_len (c : UInt8) : (esc c).length ≤ 6 := by
  have : ∀ c : Fin 256, (esc (UInt8.ofNat c.1)).length ≤ 6 := by decide +kernel
  simpa using this ⟨c.toNat, c.toNat_lt⟩
noncomputable def quoteTail (l : LB) : LB := l.flatMap esc ++ [34]
noncomputable def quoteP (l : LB) : LB := 34 :: quoteTail l
theorem wrem16 (c : UInt8) : ile 0 (wrem (c.toNat : Int) 16) = true ∧ ilt (wrem (c.toNat : Int) 16) 16 = true := by
  have : ∀ c : Fin 256, ile 0 (wrem (((UInt8.ofNat c.1)).toNat : Int) 16) = true ∧ ilt (wrem (((UInt8.ofNat c.1)).toNat : Int) 16) 16 = true := by decide +kernel
  simpa using this ⟨c.toNat, c.toNat_lt⟩
theorem ssub_pre (pre : LB) (c : UInt8) (l : LB) : ssub (pre ++ c :: l) (pre.length : Int) ((pre ++ [c]).length : Int) = [c] := by
  simp only [ssub, Int.toNat_natCast, ldrop_eq]
  have e : pre ++ c :: l = (pre ++ [c]) ++ l := app_snoc pre c l
  rw [e, List.take_left' rfl]
  simp
theorem text_step {α : Type} (k f : Nat) (pre : LB) (c : UInt8) (l : LB) (hb : (pre ++ c :: l).length < 9223372036854775800) (out : LR) (K : LR → Option α) (E : Int → LR → Option α) :
    L111al0 k K E (pre ++ c :: l) (f + 1) (slen (pre ++ c :: l)) (pre.length : Int) out = f108a k (esc c) out (fun y => L111al0 k K E (pre ++ c :: l) f (slen (pre ++ c :: l)) ((pre ++ [c]).length : Int) y) E := by
  have hl : (pre ++ c :: l).length = pre.length + (l.length + 1) := by simp
  have w := wadd_pre pre c (by omega)
  have s := ssub_pre pre c l
  have b1 : ile (pre.length : Int) ((pre ++ [c]).length : Int) = true := by simp only [ile, List.length_append, List.length_singleton]; exact decide_eq_true (by omega)
  have b2 : ile ((pre ++ [c]).length : Int) (slen (pre ++ c :: l)) = true := by simp only [ile, slen, hl, List.length_append, List.length_singleton]; exact decide_eq_true (by omega)
  simp only [L111al0, T111al0, L111aj10, T111aj10, ilt_pre', ile_pre, sat_pre, cond_true, w, s, b1, b2, (wrem16 c).1, (wrem16 c).2]
  unfold esc
  cases ieq (c.toNat : Int) 34
  · cases ieq (c.toNat : Int) 92
    · cases ieq (c.toNat : Int) 8
      · cases ieq (c.toNat : Int) 12
        · cases ieq (c.toNat : Int) 10
          · cases ieq (c.toNat : Int) 13
            · cases ieq (c.toNat : Int) 9
              · cases ilt (c.toNat : Int) 32 <;> rfl
              · rfl
            · rfl
          · rfl
        · rfl
      · rfl
    · rfl
  · rfl
theorem text_run (k : Nat) : ∀ (l : LB) (f : Nat) (pre o : LB), l.length < f → (pre ++ l).length ≤ 1000000000000 → o.length ≤ 65536 →
    Adds (fun α K E => L111al0 k K E (pre ++ l) f (slen (pre ++ l)) (pre.length : Int) (byteRows o)) o (quoteTail l) := by
  intro l
  induction l with
  | nil =>
    intro f pre o hf hb ho
    obtain ⟨f, rfl⟩ : ∃ g, f = g + 1 := ⟨f - 1, by omega⟩
    refine (adds108 k [34] o ho (by simp)).congr fun α K E => ?_
    have : ilt (pre.length : Int) (slen (pre ++ [])) = false := ilt_end' pre
    simp only [L111al0, T111al0, this, cond_false]
  | cons c l ih =>
    intro f pre o hf hb ho
    obtain ⟨f, rfl⟩ : ∃ g, f = g + 1 := ⟨f - 1, by omega⟩
    have e : quoteTail (c :: l) = esc c ++ quoteTail l := by simp [quoteTail]
    rw [e]
    refine ((adds108 k (esc c) o ho (by have := esc_len c; omega)).seq (G := fun α y K E => L111al0 k K E (pre ++ c :: l) f (slen (pre ++ c :: l)) ((pre ++ [c]).length : Int) y) fun h => ?_).congr fun α K E => ?_
    · rw [app_snoc pre c l]
      exact ih f (pre ++ [c]) (o ++ esc c) (by simpa using hf) (by rw [← app_snoc]; exact hb) h
    · exact text_step k f pre c l (by omega) _ K E
theorem adds111 (k : Nat) (x o : LB) (hv : validP x = true) (hk : x.length + 10 ≤ k) (hb : x.length ≤ 1000000000000) (ho : o.length ≤ 65536) : Adds (fun α K E => f111a k x (byteRows o) K E) o (quoteP x) := by
  have e : quoteP x = [34] ++ quoteTail x := rfl
  rw [e]
  refine ((adds108 k [34] o ho (by simp)).seq (G := fun α y K E => L111al0 k K E x k (slen x) 0 y) fun h => ?_).congr fun α K E => ?_
  · have := text_run k x k [] (o ++ [34]) (by omega) (by simpa using hb) h
    simpa using this
  · unfold f111a T111a
    rw [f98 k x (by omega) (by omega), hv]
    simp only [Bool.not_true, cond_false, L111aj0, T111aj0]
end Go.AI

/-
  PLAIN LAWS: JSON values as they are printed.
-/
set_option maxRecDepth 100000
set_option linter.unusedVariables false
set_option linter.unusedSimpArgs false
namespace Go.AI
open Go.Proofs

mutual
noncomputable def render : J → LB
  | .null => [110, 117, 108, 108]
  | .bool b => Lib.formatBool b
  | .int n => Lib.itoa n
  | .text s => quoteP s
  | .list l => [91] ++ (items true l ++ [93])
  | .obj ks l => [123] ++ (members true ks l ++ [125])
noncomputable def items : Bool → List J → LB
  | _, [] => []
  | first, j :: l => (bif first then [] else [44]) ++ (render j ++ items false l)
noncomputable def members : Bool → List LB → List J → LB
  | _, _, [] => []
  | first, ks, j :: l => (bif first then [] else [44]) ++ ((quoteP (lget ks 0 []) ++ [58]) ++ (render j ++ members false (ldrop 1 ks) l))
end
def goodS (k : Nat) (s : LB) : Prop := validP s = true ∧ s.length + 10 ≤ k ∧ s.length ≤ 1000000000000
mutual
def good (k : Nat) : Nat → J → Prop
  | _, .null => True
  | _, .bool _ => True
  | _, .int n => intOK n = true
  | _, .text s => goodS k s
  | d, .list l => 1 ≤ d ∧ l.length < k ∧ goodL k (d - 1) l
  | d, .obj ks l => 1 ≤ d ∧ ks.length = l.length ∧ l.length < k ∧ ks.Nodup ∧ (∀ x ∈ ks, goodS k x) ∧ goodL k (d - 1) l
def goodL (k : Nat) : Nat → List J → Prop
  | _, [] => True
  | d, j :: l => good k d j ∧ goodL k d l
end
theorem goodL_mem {k d : Nat} : ∀ {l : List J}, goodL k d l → ∀ j ∈ l, good k d j
  | [], _, j, hj => by simp at hj
  | a :: l, h, j, hj => by
    unfold goodL at h
    rcases List.mem_cons.1 hj with rfl | hj
    · exact h.1
    · exact goodL_mem h.2 j hj

/-! ### the keys -/
def keyPair (x : LB) : AV × AV := (.s x, .b true)
theorem mapHas_no (x : LB) : ∀ (l : List LB), x ∉ l → mapHas (l.map keyPair) (.s x) = false
  | [], _ => rfl
  | a :: l, h => by
    have h1 : (a == x) = false := by simp only [beq_eq_false_iff_ne]; intro e; exact h (by simp [e])
    simp only [List.map_cons, keyPair, mapHas, keyEq, h1, Bool.false_or]
    exact mapHas_no x l (fun e => h (by simp [e]))
theorem mapSet_no (x : LB) : ∀ (l : List LB), x ∉ l → mapSet (l.map keyPair) (.s x) (.b true) = (l ++ [x]).map keyPair
  | [], _ => rfl
  | a :: l, h => by
    have h1 : (a == x) = false := by simp only [beq_eq_false_iff_ne]; intro e; exact h (by simp [e])
    simp only [List.map_cons, keyPair, mapSet, keyEq, h1, cond_false, List.cons_append]
    rw [mapSet_no x l (fun e => h (by simp [e]))]
theorem keyRow_get (pre : List LB) (x : LB) (l : List LB) : toS (lget (rget ((pre ++ x :: l).map keyRow) (pre.length : Int)) 0 .unk) = x := by
  have : (pre ++ x :: l).map keyRow = pre.map keyRow ++ keyRow x :: l.map keyRow := by simp
  rw [this, show (pre.length : Int) = ((pre.map keyRow).length : Int) by simp, rget_pre]
  rfl
theorem keys_run {α : Type} (k : Nat) (x0 : List AV) (K : Option α) (E : Int → Option α) : ∀ (l : List LB) (f : Nat) (pre : List LB), toR (lget (ldrop 5 x0) 0 .unk) = (pre ++ l).map keyRow → l.length < f → (pre ++ l).length ≤ 1000000000000 → (pre ++ l).Nodup → (∀ x ∈ l, goodS k x) →
    L153bl0 k K E x0 f (pre.length : Int) (pre.map keyPair) = K := by
  intro l
  induction l with
  | nil =>
    intro f pre hx hf hb hn hg
    obtain ⟨f, rfl⟩ : ∃ g, f = g + 1 := ⟨f - 1, by omega⟩
    have : ilt (pre.length : Int) (rlen ((pre ++ []).map keyRow)) = false := by simp [ilt, rlen]
    simp only [L153bl0, T153bl0, hx, this, cond_false]
  | cons x l ih =>
    intro f pre hx hf hb hn hg
    obtain ⟨f, rfl⟩ : ∃ g, f = g + 1 := ⟨f - 1, by omega⟩
    have hl : (pre ++ x :: l).length = pre.length + (l.length + 1) := by simp
    have e1 : ilt (pre.length : Int) (rlen ((pre ++ x :: l).map keyRow)) = true := by simp [ilt, rlen]; omega
    have hni : x ∉ pre := fun h => by
      have := List.nodup_append.1 hn
      exact this.2.2 x h x (by simp) rfl
    have e0 : h153b_0 (pre.length : Int) (pre.map keyPair) x0 = mapHas (pre.map keyPair) (.s (toS (lget (rget (toR (lget (ldrop 5 x0) 0 .unk)) (pre.length : Int)) 0 .unk))) := rfl
    have e2 : toB (lget (h153b_1 (pre.length : Int) (pre.map keyPair) x0) 0 .unk) = false := by
      unfold h153b_1
      rw [e0, hx, keyRow_get, mapHas_no x pre hni]
      rfl
    obtain ⟨g1, g2, g3⟩ := hg x (by simp)
    simp only [L153bl0, T153bl0, e2]
    rw [hx, keyRow_get, f98 k x (by omega) (by omega), g1]
    simp only [e1, ile_pre, cond_true, cond_false, Bool.not_true, wadd_pre pre x (by omega)]
    have := ih f (pre ++ [x]) (by rw [hx]; simp) (by simpa using hf) (by rw [← app_snoc]; exact hb) (by rw [← app_snoc]; exact hn) (fun y hy => hg y (by simp [hy]))
    rw [← mapSet_no x pre hni] at this
    exact this
theorem keys_ok {α : Type} (k : Nat) (ks : List LB) (l : List J) (hl : ks.length = l.length) (hk : l.length < k) (hb : l.length ≤ 1000000000000) (hn : ks.Nodup) (hg : ∀ x ∈ ks, goodS k x) (K : Option α) (E : Int → Option α) : f153b k (row (.obj ks l)) K E = K := by
  have e1 : toR (lget (ldrop 5 (row (.obj ks l))) 0 .unk) = ks.map keyRow := by simp only [row, ldrop, lget, toR]
  have e2 : toR (lget (ldrop 4 (row (.obj ks l))) 0 .unk) = rowsJ l := by simp only [row, ldrop, lget, toR]
  have e3 : ine (rlen (ks.map keyRow)) (rlen (rowsJ l)) = false := by simp [ine, rlen, rowsJ_len, hl]
  unfold f153b T153b
  rw [e1, e2, e3]
  simp only [cond_false, L153bj0, T153bj0]
  exact keys_run k _ K E ks k [] (by rw [e1]; rfl) (by omega) (by simp; omega) (by simpa using hn) hg

/-! ### values -/
/-- what a recursive printer is -/
abbrev Pr := (α : Type) → List AV → Int → LR → (LR → Option α) → (Int → LR → Option α) → Option α
def okPr (q : Pr) (x1 : Int) (j : J) : Prop := ∀ o : LB, o.length ≤ 65536 → Adds (fun α K E => q α (row j) x1 (byteRows o) K E) o (render j)
theorem sep_adds (k : Nat) (first : Bool) (o : LB) (ho : o.length ≤ 65536) {G : (α : Type) → LR → (LR → Option α) → (Int → LR → Option α) → Option α} {u : LB}
    (hG : ∀ o' : LB, o' = o ++ (bif first then [] else [44]) → o'.length ≤ 65536 → Adds (fun α K E => G α (byteRows o') K E) o' u) :
    Adds (fun α K E => bif first then G α (byteRows o) K E else f108a k [44] (byteRows o) (fun y => G α y K E) E) o ((bif first then [] else [44]) ++ u) := by
  cases first
  · exact (adds108 k [44] o ho (by simp)).seq (G := G) fun h => hG _ rfl h
  · have := hG o (by simp) ho
    simpa using this
theorem rowsJ_get (pre : List J) (j : J) (l : List J) : rget (rowsJ (pre ++ j :: l)) (pre.length : Int) = row j := by
  rw [rowsJ_app, show rowsJ (j :: l) = row j :: rowsJ l by simp [rowsJ], show (pre.length : Int) = ((rowsJ pre).length : Int) by rw [rowsJ_len]]
  exact rget_pre _ _ _
theorem rowsJ_lt (pre : List J) (j : J) (l : List J) : ilt (pre.length : Int) (rlen (rowsJ (pre ++ j :: l))) = true := by
  simp [ilt, rlen, rowsJ_len]; omega
theorem first_igt {β : Type} (pre : List β) : igt (pre.length : Int) 0 = !(pre.isEmpty) := by
  cases pre <;> simp [igt]
theorem list_run (k : Nat) (q : Pr) (x1 : Int) (x0 : List AV) (L : List J) (h4 : toI (lget (ldrop 0 x0) 0 .unk) = 4) (hL : toR (lget (ldrop 4 x0) 0 .unk) = rowsJ L) :
    ∀ (l : List J) (f : Nat) (pre : List J) (o : LB), L = pre ++ l → l.length < f → L.length ≤ 1000000000000 → (∀ j ∈ l, okPr q x1 j) → o.length ≤ 65536 →
      Adds (fun α K E => L112cl0b k (q α) K E [93] x0 x1 f (L.length : Int) (pre.length : Int) (byteRows o)) o (items pre.isEmpty l ++ [93]) := by
  intro l
  induction l with
  | nil =>
    intro f pre o hp hf hb hq ho
    obtain ⟨f, rfl⟩ : ∃ g, f = g + 1 := ⟨f - 1, by omega⟩
    have e : ilt (pre.length : Int) (L.length : Int) = false := by rw [hp]; simp [ilt]
    refine (adds108 k [93] o ho (by simp)).congr fun α K E => ?_
    simp only [L112cl0b, T112cl0b, e, cond_false]
  | cons j l ih =>
    intro f pre o hp hf hb hq ho
    obtain ⟨f, rfl⟩ : ∃ g, f = g + 1 := ⟨f - 1, by omega⟩
    have hl : L.length = pre.length + (l.length + 1) := by rw [hp]; simp
    have e : ilt (pre.length : Int) (L.length : Int) = true := by simp [ilt]; omega
    have e2 : ieq (4 : Int) 5 = false := rfl
    have e3 : ilt (pre.length : Int) (rlen (rowsJ L)) = true := by rw [hp]; exact rowsJ_lt pre j l
    have e4 : rget (rowsJ L) (pre.length : Int) = row j := by rw [hp]; exact rowsJ_get pre j l
    have ei : items pre.isEmpty (j :: l) ++ [93] = (bif pre.isEmpty then [] else [44]) ++ (render j ++ (items false l ++ [93])) := by simp [items]
    rw [ei]
    refine (sep_adds k pre.isEmpty o ho (G := fun α y K E => q α (row j) x1 y (fun y4 => L112cl0b k (q α) K E [93] x0 x1 f (L.length : Int) ((pre ++ [j]).length : Int) y4) E) fun o' he ho' => ?_).congr fun α K E => ?_
    · refine (hq j (by simp) o' ho').seq (G := fun α y K E => L112cl0b k (q α) K E [93] x0 x1 f (L.length : Int) ((pre ++ [j]).length : Int) y) fun h => ?_
      have := ih f (pre ++ [j]) (o' ++ render j) (by rw [hp, app_snoc]) (by simpa using hf) hb (fun y hy => hq y (by simp [hy])) h
      rw [show (pre ++ [j]).isEmpty = false by cases pre <;> rfl] at this
      simpa using this
    · simp only [L112cl0b, T112cl0b, e, cond_true, first_igt, L112cj13b, T112cj13b, h4, e2, cond_false, L112cj15b, T112cj15b, ile_pre, hL, e3, e4, wadd_pre pre j (by omega)]
      cases pre.isEmpty <;> rfl
theorem obj_runP (k : Nat) (q : Pr) (x1 : Int) (x0 : List AV) (L : List J) (KS : List LB) (h5 : toI (lget (ldrop 0 x0) 0 .unk) = 5) (hL : toR (lget (ldrop 4 x0) 0 .unk) = rowsJ L) (hK : toR (lget (ldrop 5 x0) 0 .unk) = KS.map keyRow) (hlen : KS.length = L.length) (hg : ∀ x ∈ KS, goodS k x) :
    ∀ (l : List J) (ks : List LB) (f : Nat) (pre : List J) (kp : List LB) (o : LB), L = pre ++ l → KS = kp ++ ks → kp.length = pre.length → l.length < f → L.length ≤ 1000000000000 → (∀ j ∈ l, okPr q x1 j) → o.length ≤ 65536 →
      Adds (fun α K E => L112cl0b k (q α) K E [125] x0 x1 f (L.length : Int) (pre.length : Int) (byteRows o)) o (members pre.isEmpty ks l ++ [125]) := by
  intro l
  induction l with
  | nil =>
    intro ks f pre kp o hp hkp hkl hf hb hq ho
    obtain ⟨f, rfl⟩ : ∃ g, f = g + 1 := ⟨f - 1, by omega⟩
    have e : ilt (pre.length : Int) (L.length : Int) = false := by rw [hp]; simp [ilt]
    refine (adds108 k [125] o ho (by simp)).congr fun α K E => ?_
    simp only [L112cl0b, T112cl0b, e, cond_false]
  | cons j l ih =>
    intro ks f pre kp o hp hkp hkl hf hb hq ho
    obtain ⟨f, rfl⟩ : ∃ g, f = g + 1 := ⟨f - 1, by omega⟩
    have hl : L.length = pre.length + (l.length + 1) := by rw [hp]; simp
    cases ks with
    | nil => rw [hkp] at hlen; simp at hlen; omega
    | cons x ks =>
      have e : ilt (pre.length : Int) (L.length : Int) = true := by simp [ilt]; omega
      have e2 : ieq (5 : Int) 5 = true := rfl
      have e3 : ilt (pre.length : Int) (rlen (rowsJ L)) = true := by rw [hp]; exact rowsJ_lt pre j l
      have e4 : rget (rowsJ L) (pre.length : Int) = row j := by rw [hp]; exact rowsJ_get pre j l
      have e5 : ilt (pre.length : Int) (rlen (KS.map keyRow)) = true := by simp [ilt, rlen]; omega
      have e6 : toS (lget (rget (KS.map keyRow) (pre.length : Int)) 0 .unk) = x := by rw [hkp, ← hkl]; exact keyRow_get kp x ks
      obtain ⟨g1, g2, g3⟩ := hg x (by rw [hkp]; simp)
      have ei : members pre.isEmpty (x :: ks) (j :: l) ++ [125] = (bif pre.isEmpty then [] else [44]) ++ (quoteP x ++ ([58] ++ (render j ++ (members false ks l ++ [125])))) := by simp [members, lget, ldrop]
      rw [ei]
      refine (sep_adds k pre.isEmpty o ho (G := fun α y K E => f111a k x y (fun y2 => f108a k [58] y2 (fun y3 => q α (row j) x1 y3 (fun y4 => L112cl0b k (q α) K E [125] x0 x1 f (L.length : Int) ((pre ++ [j]).length : Int) y4) E) E) E) fun o' he ho' => ?_).congr fun α K E => ?_
      · refine (adds111 k x o' g1 g2 g3 ho').seq (G := fun α y2 K E => f108a k [58] y2 (fun y3 => q α (row j) x1 y3 (fun y4 => L112cl0b k (q α) K E [125] x0 x1 f (L.length : Int) ((pre ++ [j]).length : Int) y4) E) E) fun h => ?_
        refine (adds108 k [58] _ h (by simp)).seq (G := fun α y3 K E => q α (row j) x1 y3 (fun y4 => L112cl0b k (q α) K E [125] x0 x1 f (L.length : Int) ((pre ++ [j]).length : Int) y4) E) fun h => ?_
        refine (hq j (by simp) _ h).seq (G := fun α y4 K E => L112cl0b k (q α) K E [125] x0 x1 f (L.length : Int) ((pre ++ [j]).length : Int) y4) fun h => ?_
        have := ih ks f (pre ++ [j]) (kp ++ [x]) _ (by rw [hp, app_snoc]) (by rw [hkp, app_snoc]) (by simp [hkl]) (by simpa using hf) hb (fun y hy => hq y (by simp [hy])) h
        rw [show (pre ++ [j]).isEmpty = false by cases pre <;> rfl] at this
        simpa using this
      · simp only [L112cl0b, T112cl0b, e, cond_true, first_igt, L112cj13b, T112cj13b, h5, e2, L112cj15b, T112cj15b, ile_pre, hL, hK, e3, e4, e5, e6, wadd_pre pre j (by omega)]
        cases pre.isEmpty <;> rfl
theorem adds112 (k : Nat) (q : Pr) (x1 : Int) (h16 : x1 ≤ 16) (d : Nat) (j : J) (hj : (∃ l, j = .list l) ∨ ∃ ks l, j = .obj ks l) (hk2 : k ≤ 1000000000000) (hg : good k (d + 1) j) (hq : ∀ c : J, good k d c → okPr q x1 c) (o : LB) (ho : o.length ≤ 65536) :
    Adds (fun α K E => f112c k (q α) (row j) x1 (byteRows o) K E) o (render j) := by
  have e16 : igt x1 16 = false := by simp only [igt]; exact decide_eq_false (by omega)
  rcases hj with ⟨l, rfl⟩ | ⟨ks, l, rfl⟩
  · have h4 : toI (lget (ldrop 0 (row (.list l))) 0 .unk) = 4 := by simp only [row, ldrop, lget, toI]
    have hL : toR (lget (ldrop 4 (row (.list l))) 0 .unk) = rowsJ l := by simp only [row, ldrop, lget, toR]
    unfold good at hg
    obtain ⟨_, g2, g3⟩ := hg
    have e2 : ieq (4 : Int) 5 = false := rfl
    have er : render (.list l) = [91] ++ (items true l ++ [93]) := by simp [render]
    rw [er]
    refine ((adds108 k [91] o ho (by simp)).seq (G := fun α y K E => L112cl0b k (q α) K E [93] (row (.list l)) x1 k (l.length : Int) 0 y) fun h => ?_).congr fun α K E => ?_
    · have := list_run k q x1 (row (.list l)) l h4 hL l k [] (o ++ [91]) rfl g2 (by omega) (fun j hj => hq j (goodL_mem g3 j hj)) h
      simpa using this
    · simp only [f112c, T112c, e16, cond_false, L112cj0, T112cj0, h4, e2, L112cj3, T112cj3, hL, rlen, rowsJ_len]
  · have h5 : toI (lget (ldrop 0 (row (.obj ks l))) 0 .unk) = 5 := by simp only [row, ldrop, lget, toI]
    have hL : toR (lget (ldrop 4 (row (.obj ks l))) 0 .unk) = rowsJ l := by simp only [row, ldrop, lget, toR]
    have hK : toR (lget (ldrop 5 (row (.obj ks l))) 0 .unk) = ks.map keyRow := by simp only [row, ldrop, lget, toR]
    unfold good at hg
    obtain ⟨_, g1, g2, g3, g4, g5⟩ := hg
    have e2 : ieq (5 : Int) 5 = true := rfl
    have er : render (.obj ks l) = [123] ++ (members true ks l ++ [125]) := by simp [render]
    rw [er]
    refine ((adds108 k [123] o ho (by simp)).seq (G := fun α y K E => L112cl0b k (q α) K E [125] (row (.obj ks l)) x1 k (l.length : Int) 0 y) fun h => ?_).congr fun α K E => ?_
    · have := obj_runP k q x1 (row (.obj ks l)) l ks h5 hL hK g1 g4 l ks k [] [] (o ++ [123]) rfl rfl rfl g2 (by omega) (fun j hj => hq j (goodL_mem g5 j hj)) h
      simpa using this
    · simp only [f112c, T112c, e16, cond_false, L112cj0, T112cj0, h5, e2, cond_true, L112cj3, T112cj3, hL, rlen, rowsJ_len]
      exact keys_ok k ks l g1 g2 (by omega) g3 g4 _ _
theorem itoa_len (n : Int) (h : intOK n = true) : (Lib.itoa n).length ≤ 21 := by
  have key : ∀ u : Nat, u < 18446744073709551616 → (Lib.decDigits u).length ≤ 20 := fun u hu => by
    rw [Lib.decDigits_length]
    by_cases h0 : u = 0
    · subst h0; rw [Lib.nDigits_small (by omega)]; omega
    · have := Lib.numDigits_eq u (by omega) hu
      split at this <;> omega
  simp only [intOK, Bool.and_eq_true, decide_eq_true_eq] at h
  unfold Lib.itoa
  split
  · have := key n.natAbs (by omega)
    simp; omega
  · have := key n.toNat (by omega)
    omega
/-- a value, printed at depth x1 -/
theorem pr68 (k : Nat) (hk2 : k ≤ 1000000000000) : ∀ (d : Nat) (n : Nat), d < n → ∀ (j : J), good k d j → ∀ (x1 : Int), 0 ≤ x1 → x1 + d ≤ 16 → okPr (fun α => fr68b k n) x1 j := by
  intro d
  induction d with
  | zero =>
    intro n hn j hj x1 h0 h1 o ho
    obtain ⟨n, rfl⟩ : ∃ g, n = g + 1 := ⟨n - 1, by omega⟩
    cases j with
    | null => exact (adds108 k [110, 117, 108, 108] o ho (by simp)).congr fun α K E => rfl
    | bool b => exact (adds108 k (Lib.formatBool b) o ho (by cases b <;> decide)).congr fun α K E => rfl
    | int z =>
      unfold good at hj
      have e : ∀ (α : Type) (K : LR → Option α) (E : Int → LR → Option α), f110a k z (fun y0 => f108a k y0 (byteRows o) (fun y1 => K y1) (fun y2 y3 => E y2 y3)) = f108a k (Lib.itoa z) (byteRows o) K E := fun α K E => by
        unfold f110a; rw [hj]; rfl
      exact (adds108 k (Lib.itoa z) o ho (by have := itoa_len z hj; omega)).congr fun α K E => e α K E
    | text s =>
      unfold good at hj
      exact (adds111 k s o hj.1 hj.2.1 hj.2.2 ho).congr fun α K E => rfl
    | list l => simp [good] at hj
    | obj ks l => simp [good] at hj
  | succ d ih =>
    intro n hn j hj x1 h0 h1 o ho
    obtain ⟨n, rfl⟩ : ∃ g, n = g + 1 := ⟨n - 1, by omega⟩
    have hw : wadd .i64 x1 1 = x1 + 1 := wadd_in (by omega) (by omega)
    have rec' := adds112 k (fun α => fr68b k n) (x1 + 1) (by omega) d j
    cases j with
    | null => exact (adds108 k [110, 117, 108, 108] o ho (by simp)).congr fun α K E => rfl
    | bool b => exact (adds108 k (Lib.formatBool b) o ho (by cases b <;> decide)).congr fun α K E => rfl
    | int z =>
      unfold good at hj
      have e : ∀ (α : Type) (K : LR → Option α) (E : Int → LR → Option α), f110a k z (fun y0 => f108a k y0 (byteRows o) (fun y1 => K y1) (fun y2 y3 => E y2 y3)) = f108a k (Lib.itoa z) (byteRows o) K E := fun α K E => by
        unfold f110a; rw [hj]; rfl
      exact (adds108 k (Lib.itoa z) o ho (by have := itoa_len z hj; omega)).congr fun α K E => e α K E
    | text s =>
      unfold good at hj
      exact (adds111 k s o hj.1 hj.2.1 hj.2.2 ho).congr fun α K E => rfl
    | list l =>
      refine (rec' (.inl ⟨l, rfl⟩) hk2 hj (fun c hc => ih n (by omega) c hc (x1 + 1) (by omega) (by omega)) o ho).congr fun α K E => ?_
      show f112c k (fr68b k n) (row (.list l)) (wadd .i64 x1 1) (byteRows o) _ _ = _
      rw [hw]
    | obj ks l =>
      refine (rec' (.inr ⟨ks, l, rfl⟩) hk2 hj (fun c hc => ih n (by omega) c hc (x1 + 1) (by omega) (by omega)) o ho).congr fun α K E => ?_
      show f112c k (fr68b k n) (row (.obj ks l)) (wadd .i64 x1 1) (byteRows o) _ _ = _
      rw [hw]
end Go.AI

/-
  PLAIN LAWS: what Put comes to.
-/
set_option maxRecDepth 100000
set_option linter.unusedVariables false
set_option linter.unusedSimpArgs false
namespace Go.AI
open Go.Proofs

theorem top_run (k : Nat) (x1 : Int) (x3 : Bool) (x4 : Int) (x5 : LB) (x7 : LR) (L : List J) :
    ∀ (l : List J) (f : Nat) (pre : List J) (o : LB), L = pre ++ l → l.length < f → L.length ≤ 1000000000000 → (∀ j ∈ l, okPr (fun α => f68b k) x1 j) → o.length ≤ 65536 →
      Adds (fun α K E => L112al0b k K (fun e o _ _ _ _ _ _ => E e o) 4 x3 x4 x5 (rowsJ L) x7 [93] x1 f (L.length : Int) (pre.length : Int) (byteRows o)) o (items pre.isEmpty l ++ [93]) := by
  intro l
  induction l with
  | nil =>
    intro f pre o hp hf hb hq ho
    obtain ⟨f, rfl⟩ : ∃ g, f = g + 1 := ⟨f - 1, by omega⟩
    have e : ilt (pre.length : Int) (L.length : Int) = false := by rw [hp]; simp [ilt]
    refine (adds108 k [93] o ho (by simp)).congr fun α K E => ?_
    simp only [L112al0b, T112al0b, e, cond_false]
  | cons j l ih =>
    intro f pre o hp hf hb hq ho
    obtain ⟨f, rfl⟩ : ∃ g, f = g + 1 := ⟨f - 1, by omega⟩
    have hl : L.length = pre.length + (l.length + 1) := by rw [hp]; simp
    have e : ilt (pre.length : Int) (L.length : Int) = true := by simp [ilt]; omega
    have e2 : ieq (4 : Int) 5 = false := rfl
    have e3 : ilt (pre.length : Int) (rlen (rowsJ L)) = true := by rw [hp]; exact rowsJ_lt pre j l
    have e4 : rget (rowsJ L) (pre.length : Int) = row j := by rw [hp]; exact rowsJ_get pre j l
    have ei : items pre.isEmpty (j :: l) ++ [93] = (bif pre.isEmpty then [] else [44]) ++ (render j ++ (items false l ++ [93])) := by simp [items]
    rw [ei]
    refine (sep_adds k pre.isEmpty o ho (G := fun α y K E => f68b k (row j) x1 y (fun y4 => L112al0b k K (fun e o _ _ _ _ _ _ => E e o) 4 x3 x4 x5 (rowsJ L) x7 [93] x1 f (L.length : Int) ((pre ++ [j]).length : Int) y4) E) fun o' he ho' => ?_).congr fun α K E => ?_
    · refine (hq j (by simp) o' ho').seq (G := fun α y K E => L112al0b k K (fun e o _ _ _ _ _ _ => E e o) 4 x3 x4 x5 (rowsJ L) x7 [93] x1 f (L.length : Int) ((pre ++ [j]).length : Int) y) fun h => ?_
      have := ih f (pre ++ [j]) (o' ++ render j) (by rw [hp, app_snoc]) (by simpa using hf) hb (fun y hy => hq y (by simp [hy])) h
      rw [show (pre ++ [j]).isEmpty = false by cases pre <;> rfl] at this
      simpa using this
    · simp only [L112al0b, T112al0b, e, cond_true, first_igt, L112aj13b, T112aj13b, e2, cond_false, L112aj15b, T112aj15b, ile_pre, e3, e4, wadd_pre pre j (by omega)]
      cases pre.isEmpty <;> rfl
/-- a list, printed -/
noncomputable def putP (L : List J) : LB := render (.list L)
theorem f41 {α : Type} (k : Nat) (hk : 20 ≤ k) (hk2 : k ≤ 1000000000000) (L : List J) (hL : L.length < k) (hg : ∀ j ∈ L, good k 15 j) (K : LB → Int → Option α) :
    ((putP L).length ≤ 65536 → f41a k 4 false 0 [] (rowsJ L) [] K = K (putP L) 0) ∧ (65536 < (putP L).length → ∃ e : Int, e ≠ 0 ∧ f41a k 4 false 0 [] (rowsJ L) [] K = K [] e) := by
  have hA : Adds (fun α K E => f68a k 0 [] 4 false 0 [] (rowsJ L) [] K (fun e o _ _ _ _ _ _ => E e o)) [] (putP L) := by
    have er : putP L = [91] ++ (items true L ++ [93]) := by simp [putP, render]
    rw [er]
    refine ((adds108 k [91] [] (by simp) (by simp)).seq (G := fun α y K E => L112al0b k K (fun e o _ _ _ _ _ _ => E e o) 4 false 0 [] (rowsJ L) [] [93] 1 k (L.length : Int) 0 y) fun h => ?_).congr fun α K E => ?_
    · have := top_run k 1 false 0 [] [] L L k [] ([] ++ [91]) rfl hL (by omega) (fun j hj => pr68 k hk2 15 k (by omega) j (hg j hj) 1 (by omega) (by omega)) h
      simpa using this
    · have e1 : ieq (4 : Int) 0 = false := rfl
      have e2 : ieq (4 : Int) 1 = false := rfl
      have e3 : ieq (4 : Int) 2 = false := rfl
      have e4 : ieq (4 : Int) 3 = false := rfl
      have e5 : ieq (4 : Int) 4 = true := rfl
      have e6 : wadd .i64 0 1 = 1 := rfl
      have e7 : igt 1 16 = false := rfl
      have e8 : ieq (4 : Int) 5 = false := rfl
      simp only [f68a, T68a, e1, e2, e3, e4, e5, cond_false, cond_true, L68aj5, T68aj5, e6, f112a, T112a, e7, L112aj0, T112aj0, e8, L112aj3, T112aj3, rlen, rowsJ_len]
      rfl
  unfold f41a T41a
  rcases hA with ⟨h1, h2⟩ | ⟨h1, e, o', he, h2⟩
  · rw [List.nil_append] at h1
    refine ⟨fun _ => ?_, fun h => by omega⟩
    refine (h2 α (fun y0 => K (bytesOf y0) 0) (fun e o => bif ine e 0 then K [] e else K [] e)).trans ?_
    rw [List.nil_append, bytes_back]
  · rw [List.nil_append] at h1
    refine ⟨fun h => by omega, fun _ => ⟨e, he, ?_⟩⟩
    refine (h2 α (fun y0 => K (bytesOf y0) 0) (fun e o => bif ine e 0 then K [] e else K [] e)).trans ?_
    cases ine e 0 <;> rfl

/-! ### what may be prints -/
theorem ascii_rune (c : UInt8) (h : c.toNat < 128) (l : LB) : runeP (c :: l) = ((c.toNat : Int), 1) := by
  have key : ∀ c : Fin 128, fitsP 1 (UInt8.ofNat c.1) = true ∧ wandn .i64 (wcv .i64 ((UInt8.ofNat c.1).toNat : Int)) (mskN 1) = ((UInt8.ofNat c.1).toNat : Int) ∧ mayB ((UInt8.ofNat c.1).toNat : Int) = true ∧ ilt ((UInt8.ofNat c.1).toNat : Int) (leastN 1) = false := by decide +kernel
  have hc : UInt8.ofNat c.toNat = c := by simp
  obtain ⟨k1, k2, k3, k4⟩ := key ⟨c.toNat, h⟩
  simp only [hc] at k1 k2 k3 k4
  unfold runeP
  dsimp only
  rw [k1, cond_true]
  unfold tryP
  rw [Nat.ble_eq_true_of_le (by omega), cond_true, Nat.sub_self]
  simp only [innerP, k2, k4, k3, cond_false, cond_true]
  rfl
theorem ascii_valid : ∀ (n : Nat) (x : LB), x.length ≤ n → (∀ c ∈ x, c.toNat < 128) → validN n x = true
  | n, [], _, _ => by cases n <;> rfl
  | 0, c :: l, h, _ => by simp at h
  | n + 1, c :: l, h, ha => by
    unfold validN
    rw [ascii_rune c (ha c (by simp)) l]
    have : ieq (1 : Int) 0 = false := rfl
    simp only [this, cond_false]
    exact ascii_valid n l (by simpa using h) (fun d hd => ha d (by simp [hd]))
theorem goodS_ascii {k : Nat} (hk : 100 ≤ k) {x : LB} (hl : x.length ≤ 64) (h : ∀ c ∈ x, c.toNat < 128) : goodS k x := ⟨ascii_valid x.length x (Nat.le_refl _) h, by omega, by omega⟩
theorem goodS_key {k : Nat} (hk : 100 ≤ k) {x : LB} (h : keyB x = true) : goodS k x := by
  obtain ⟨h1, h2, h3⟩ := (keyB_iff x).1 h
  exact goodS_ascii hk h2 fun c hc => by have := h3 c hc; omega
theorem goodS_name {k : Nat} (hk : 100 ≤ k) {x : LB} (h : nameB x = true) : goodS k x := by
  obtain ⟨h2, h3⟩ := nameB_imp h
  exact goodS_ascii hk (by omega) fun c hc => by have := mem_wchars c (h3 c hc); omega
theorem goodS_lit {k : Nat} (hk : 100 ≤ k) {x : LB} (hl : x.length ≤ 64) (h : (x.all fun c => decide (c.toNat < 128)) = true) : goodS k x := goodS_ascii hk hl (by simpa using h)
theorem intOK_in {n : Int} (h0 : -9223372036854775808 ≤ n) (h1 : n ≤ 9223372036854775807) : intOK n = true := by simp [intOK, h0, h1]
theorem goodL_of {k d : Nat} : ∀ {l : List J}, (∀ j ∈ l, good k d j) → goodL k d l
  | [], _ => by simp [goodL]
  | a :: l, h => by unfold goodL; exact ⟨h a (by simp), goodL_of fun j hj => h j (by simp [hj])⟩
theorem good_objJ {k d : Nat} {ps : List (LB × J)} (h1 : ps.length < k) (h2 : (ps.map (·.1)).Nodup) (h3 : ∀ p ∈ ps, goodS k p.1) (h4 : ∀ p ∈ ps, good k d p.2) : good k (d + 1) (objJ ps) := by
  unfold objJ good
  refine ⟨by omega, by simp, by simpa using h1, h2, fun x hx => ?_, goodL_of fun j hj => ?_⟩
  · obtain ⟨p, hp, rfl⟩ := List.mem_map.1 hx; exact h3 p hp
  · obtain ⟨p, hp, rfl⟩ := List.mem_map.1 hj; exact h4 p hp
theorem good_list {k d : Nat} {l : List J} (h1 : l.length < k) (h : ∀ j ∈ l, good k d j) : good k (d + 1) (.list l) := by
  unfold good; exact ⟨by omega, h1, goodL_of h⟩
theorem good_scalar {k d : Nat} (hk : 100 ≤ k) {x0 x1 : Int} {x2 : Bool} {x3 : LB} (h : valueB x0 x1 x2 x3 = true) (hi : intOK x1 = true) : good k d (scalarJ x0 x1 x2 x3) := by
  rcases valueB_imp h with ⟨rfl, _⟩ | ⟨rfl, _⟩ | ⟨rfl, _⟩ | ⟨rfl, _, _, h4, h5⟩
  · cases d <;> simp [scalarJ, ieq, good]
  · cases d <;> simpa [scalarJ, ieq, good] using hi
  · cases d <;> simp [scalarJ, ieq, good]
  · have : goodS k x3 := ⟨h5, by omega, by omega⟩
    cases d <;> simpa [scalarJ, ieq, good] using this
end Go.AI

/-
  PLAIN LAWS: what may be is printed; what Put comes to.
-/
set_option maxRecDepth 100000
set_option linter.unusedVariables false
set_option linter.unusedSimpArgs false
namespace Go.AI
open Go.Proofs

theorem condF {a b : Bool} (h : (bif a then b else false) = true) : a = true ∧ b = true := by cases a <;> simp_all
theorem condN {a b : Bool} (h : (bif a then false else b) = true) : a = false ∧ b = true := by cases a <;> simp_all
theorem mayA_cases (x0 : Int) (x1 : LB) (x2 : Int) (x3 : Int) (x4 : LR) (x5 : LR) (x6 : LB) (x7 : LB) (x8 : LB) (x9 : Int) (x10 : Int) (x11 : LR) (x12 : Int) (x13 : Int) (x14 : LR) (x15 : LB) (x16 : Int) (x17 : Int) (x18 : Int) (x19 : Int) (h : mayA x0 x1 x2 x3 x4 x5 x6 x7 x8 x9 x10 x11 x12 x13 x14 x15 x16 x17 x18 x19 = true) : (x0 = 0 ∧ fileB x1 x2 x3 x4 x5 = true ∧ bareB x0 x1 x2 x3 x4 x5 x6 x7 x8 x9 x10 x11 x12 x13 x14 x15 x16 x17 x18 x19 x0 x1 x2 x3 x4 x5 [] [] [] 0 0 [] 0 0 [] [] 0 0 0 0 = true) ∨ (x0 = 1 ∧ keyB x6 = true ∧ bareB x0 x1 x2 x3 x4 x5 x6 x7 x8 x9 x10 x11 x12 x13 x14 x15 x16 x17 x18 x19 x0 [] 0 0 [] [] x6 [] [] 0 0 [] 0 0 [] [] 0 0 0 0 = true) ∨ (x0 = 2 ∧ markB x7 x8 x9 = true ∧ bareB x0 x1 x2 x3 x4 x5 x6 x7 x8 x9 x10 x11 x12 x13 x14 x15 x16 x17 x18 x19 x0 [] 0 0 [] [] [] x7 x8 x9 0 [] 0 0 [] [] 0 0 0 0 = true) ∨ (x0 = 3 ∧ schemaB x10 x11 x12 = true ∧ bareB x0 x1 x2 x3 x4 x5 x6 x7 x8 x9 x10 x11 x12 x13 x14 x15 x16 x17 x18 x19 x0 [] 0 0 [] [] [] [] [] 0 x10 x11 x12 0 [] [] 0 0 0 0 = true) ∨ (x0 = 4 ∧ specB x13 x14 = true ∧ bareB x0 x1 x2 x3 x4 x5 x6 x7 x8 x9 x10 x11 x12 x13 x14 x15 x16 x17 x18 x19 x0 [] 0 0 [] [] [] [] [] 0 0 [] 0 x13 x14 [] 0 0 0 0 = true) ∨ (x0 = 5 ∧ keyB x15 = true ∧ bareB x0 x1 x2 x3 x4 x5 x6 x7 x8 x9 x10 x11 x12 x13 x14 x15 x16 x17 x18 x19 x0 [] 0 0 [] [] [] [] [] 0 0 [] 0 0 [] x15 0 0 0 0 = true) ∨ (x0 = 6 ∧ infoB x16 x17 x18 x19 = true ∧ bareB x0 x1 x2 x3 x4 x5 x6 x7 x8 x9 x10 x11 x12 x13 x14 x15 x16 x17 x18 x19 x0 [] 0 0 [] [] [] [] [] 0 0 [] 0 0 [] [] x16 x17 x18 x19 = true) := by
  unfold mayA at h
  cases h0 : ieq x0 0
  rotate_left
  · rw [h0, cond_true] at h
    obtain ⟨a, b⟩ := condF h
    exact (.inl ⟨(ieq_iff _ _).1 h0, a, b⟩)
  rw [h0, cond_false] at h
  cases h1 : ieq x0 1
  rotate_left
  · rw [h1, cond_true] at h
    obtain ⟨a, b⟩ := condF h
    exact (.inr (.inl ⟨(ieq_iff _ _).1 h1, a, b⟩))
  rw [h1, cond_false] at h
  cases h2 : ieq x0 2
  rotate_left
  · rw [h2, cond_true] at h
    obtain ⟨a, b⟩ := condF h
    exact (.inr (.inr (.inl ⟨(ieq_iff _ _).1 h2, a, b⟩)))
  rw [h2, cond_false] at h
  cases h3 : ieq x0 3
  rotate_left
  · rw [h3, cond_true] at h
    obtain ⟨a, b⟩ := condF h
    exact (.inr (.inr (.inr (.inl ⟨(ieq_iff _ _).1 h3, a, b⟩))))
  rw [h3, cond_false] at h
  cases h4 : ieq x0 4
  rotate_left
  · rw [h4, cond_true] at h
    obtain ⟨a, b⟩ := condF h
    exact (.inr (.inr (.inr (.inr (.inl ⟨(ieq_iff _ _).1 h4, a, b⟩)))))
  rw [h4, cond_false] at h
  cases h5 : ieq x0 5
  rotate_left
  · rw [h5, cond_true] at h
    obtain ⟨a, b⟩ := condF h
    exact (.inr (.inr (.inr (.inr (.inr (.inl ⟨(ieq_iff _ _).1 h5, a, b⟩))))))
  rw [h5, cond_false] at h
  cases h6 : ieq x0 6
  rotate_left
  · rw [h6, cond_true] at h
    obtain ⟨a, b⟩ := condF h
    exact (.inr (.inr (.inr (.inr (.inr (.inr ⟨(ieq_iff _ _).1 h6, a, b⟩))))))
  rw [h6, cond_false] at h
  cases h
theorem bareB_imp (x0 : Int) (x1 : LB) (x2 : Int) (x3 : Int) (x4 : LR) (x5 : LR) (x6 : LB) (x7 : LB) (x8 : LB) (x9 : Int) (x10 : Int) (x11 : LR) (x12 : Int) (x13 : Int) (x14 : LR) (x15 : LB) (x16 : Int) (x17 : Int) (x18 : Int) (x19 : Int) (x20 : Int) (x21 : LB) (x22 : Int) (x23 : Int) (x24 : LR) (x25 : LR) (x26 : LB) (x27 : LB) (x28 : LB) (x29 : Int) (x30 : Int) (x31 : LR) (x32 : Int) (x33 : Int) (x34 : LR) (x35 : LB) (x36 : Int) (x37 : Int) (x38 : Int) (x39 : Int) (h : bareB x0 x1 x2 x3 x4 x5 x6 x7 x8 x9 x10 x11 x12 x13 x14 x15 x16 x17 x18 x19 x20 x21 x22 x23 x24 x25 x26 x27 x28 x29 x30 x31 x32 x33 x34 x35 x36 x37 x38 x39 = true) :
    x1 = x21 ∧ x2 = x22 ∧ x3 = x23 ∧ x4.length = x24.length ∧ x5.length = x25.length ∧ x10 = x30 ∧ x12 = x32 ∧ x11.length = x31.length ∧ x13 = x33 ∧ x14.length = x34.length ∧ x6 = x26 ∧ x7 = x27 ∧ x8 = x28 ∧ x9 = x29 ∧ x15 = x35 ∧ x16 = x36 ∧ x17 = x37 ∧ x18 = x38 ∧ x19 = x39 := by
  simpa only [bareB, Bool.and_eq_true, decide_eq_true_eq] using h
theorem fileB_imp {x0 : LB} {x1 x2 : Int} {x3 x4 : LR} (h : fileB x0 x1 x2 x3 x4 = true) : keyB x0 = true ∧ (0 ≤ x1 ∧ x1 ≤ 4096) ∧ (0 ≤ x2 ∧ x2 ≤ 2147483647) ∧ x3.length ≤ 4 ∧ x4.length ≤ 12 ∧ (∀ r ∈ x3, valRow r = true) ∧ statsB x1 0 x4 = true := by
  unfold fileB at h
  obtain ⟨a, h⟩ := condF h
  obtain ⟨b, h⟩ := condF h
  obtain ⟨c, h⟩ := condF h
  obtain ⟨d, h⟩ := condN h
  obtain ⟨e, h⟩ := condN h
  obtain ⟨f, h⟩ := condF h
  refine ⟨a, (inB_iff _ _).1 b, (inB_iff _ _).1 c, ?_, ?_, by simpa using f, h⟩
  · simp [igt, rlen] at d; omega
  · simp [igt, rlen] at e; omega
theorem statsB_mem {x2 : Int} : ∀ {l : LR} {last : Int}, statsB x2 last l = true → ∀ r ∈ l, (0 ≤ toI (lget r 1 .unk) ∧ toI (lget r 1 .unk) ≤ x2) ∧ valueB (toI (lget r 2 .unk)) (toI (lget r 3 .unk)) (toB (lget r 4 .unk)) (toS (lget r 5 .unk)) = true ∧ valueB (toI (lget r 6 .unk)) (toI (lget r 7 .unk)) (toB (lget r 8 .unk)) (toS (lget r 9 .unk)) = true
  | [], _, _, r, hr => by simp at hr
  | a :: l, last, h, r, hr => by
    unfold statsB at h
    obtain ⟨a1, h⟩ := condN h
    obtain ⟨b, h⟩ := condF h
    obtain ⟨c, h⟩ := condF h
    obtain ⟨d, h⟩ := condF h
    rcases List.mem_cons.1 hr with rfl | hr
    · exact ⟨(inB_iff _ _).1 b, c, d⟩
    · exact statsB_mem h r hr
theorem colsB_mem {x2 : Int} : ∀ {l pre : LR}, colsB x2 pre l = true → ∀ r ∈ l, 1 ≤ toI (lget r 0 .unk) ∧ toI (lget r 0 .unk) < x2 ∧ nameB (toS (lget r 1 .unk)) = true ∧ 1 ≤ toI (lget r 2 .unk) ∧ toI (lget r 2 .unk) ≤ 3
  | [], _, _, r, hr => by simp at hr
  | a :: l, pre, h, r, hr => by
    unfold colsB at h
    obtain ⟨h1, h⟩ := condF h
    unfold colRow at h1
    obtain ⟨a1, h1⟩ := condN h1
    obtain ⟨a2, h1⟩ := condN h1
    obtain ⟨a3, h1⟩ := condF h1
    obtain ⟨a4, h1⟩ := condF h1
    rcases List.mem_cons.1 hr with rfl | hr
    · have := (kindB_iff _).1 a4
      simp [ilt, ige] at a1 a2
      exact ⟨a1, a2, a3, this.1, this.2⟩
    · exact colsB_mem h r hr
theorem schemaB_imp {x0 : Int} {x1 : LR} {x2 : Int} (h : schemaB x0 x1 x2 = true) : (0 ≤ x0 ∧ x0 ≤ 2147483647) ∧ x1.length ≤ 12 ∧ (1 ≤ x2 ∧ x2 ≤ 2147483647) ∧ colsB x2 [] x1 = true := by
  unfold schemaB at h
  obtain ⟨a, h⟩ := condN h
  obtain ⟨b, h⟩ := condN h
  obtain ⟨c, h⟩ := condN h
  obtain ⟨d, h⟩ := condN h
  obtain ⟨e, h⟩ := condN h
  obtain ⟨f, h⟩ := condN h
  simp [ilt, igt, rlen] at a b c d e f
  exact ⟨⟨a, b⟩, by omega, ⟨e, f⟩, h⟩
theorem fieldRow_imp {r : List AV} (h : fieldRow r = true) : (1 ≤ toI (lget r 0 .unk) ∧ toI (lget r 0 .unk) ≤ 2147483647) ∧ (0 ≤ toI (lget r 1 .unk) ∧ toI (lget r 1 .unk) ≤ 2) ∧ (0 ≤ toI (lget r 2 .unk) ∧ toI (lget r 2 .unk) ≤ 1024) := by
  unfold fieldRow at h
  obtain ⟨a, h⟩ := condN h
  obtain ⟨b, h⟩ := condN h
  simp [ilt, igt] at a b
  refine ⟨⟨a, b⟩, ?_⟩
  unfold paramB at h
  cases e0 : ieq (toI (lget r 1 .unk)) 0
  · rw [e0, cond_false] at h
    obtain ⟨h1, h2⟩ := condF h
    obtain ⟨h3, h4⟩ := condF h2
    simp [ige, ile] at h3 h4
    have : toI (lget r 1 .unk) = 1 ∨ toI (lget r 1 .unk) = 2 := by
      cases e1 : ieq (toI (lget r 1 .unk)) 1
      · rw [e1, cond_false] at h1; exact .inr ((ieq_iff _ _).1 h1)
      · exact .inl ((ieq_iff _ _).1 e1)
    omega
  · rw [e0, cond_true] at h
    have := (ieq_iff _ _).1 e0
    have := (ieq_iff _ _).1 h
    omega
theorem specB_imp {x0 : Int} {x1 : LR} (h : specB x0 x1 = true) : (0 ≤ x0 ∧ x0 ≤ 2147483647) ∧ x1.length ≤ 4 ∧ ∀ r ∈ x1, fieldRow r = true := by
  unfold specB at h
  obtain ⟨a, h⟩ := condF h
  obtain ⟨b, h⟩ := condN h
  simp [igt, rlen] at b
  exact ⟨(inB_iff _ _).1 a, by omega, by simpa using h⟩
theorem markB_imp {x y : LB} {n : Int} (h : markB x y n = true) : keyB x = true ∧ keyB y = true ∧ 1 ≤ n ∧ n ≤ 4096 := by
  unfold markB at h
  obtain ⟨a, h⟩ := condF h
  obtain ⟨b, h⟩ := condF h
  obtain ⟨c, h⟩ := condF h
  simp [ige, ile] at c h
  exact ⟨a, b, c, h⟩
theorem infoB_imp {a b c d : Int} (h : infoB a b c d = true) : (0 ≤ a ∧ a ≤ 8) ∧ (0 ≤ b ∧ b ≤ 2147483647) ∧ (0 ≤ c ∧ c ≤ 11) ∧ 0 ≤ d := by
  unfold infoB at h
  obtain ⟨a, h⟩ := condF h
  obtain ⟨b, h⟩ := condF h
  obtain ⟨c, h⟩ := condF h
  simp [ige] at h
  exact ⟨(inB_iff _ _).1 a, (inB_iff _ _).1 b, (inB_iff _ _).1 c, h⟩

/-- the numbers of an action that nothing else bounds are int64's -/
def wfA (x4 x5 : LR) (x19 : Int) : Prop := (∀ v ∈ x4, intOK (toI (lget v 1 .unk)) = true) ∧ (∀ v ∈ x5, intOK (toI (lget v 0 .unk)) = true ∧ intOK (toI (lget v 3 .unk)) = true ∧ intOK (toI (lget v 7 .unk)) = true) ∧ intOK x19 = true
def wfRow (r : List AV) : Prop := wfA (toR (lget r 4 .unk)) (toR (lget r 5 .unk)) (toI (lget r 19 .unk))
theorem all_cons {β : Type} {p : β → Prop} {a : β} {l : List β} (h : p a) (hl : ∀ x ∈ l, p x) : ∀ x ∈ a :: l, p x := fun x hx => by
  rcases List.mem_cons.1 hx with rfl | hx
  · exact h
  · exact hl x hx
theorem all_nil {β : Type} {p : β → Prop} : ∀ x ∈ ([] : List β), p x := fun x hx => by simp at hx
theorem good_int {k d : Nat} {n : Int} (h : intOK n = true) : good k d (.int n) := by cases d <;> exact h
theorem good_text {k d : Nat} {s : LB} (h : goodS k s) : good k d (.text s) := by cases d <;> exact h
theorem good_stat {k d : Nat} (hk : 100 ≤ k) {r : List AV} (h1 : intOK (toI (lget r 0 .unk)) = true) (h2 : intOK (toI (lget r 1 .unk)) = true) (h3 : valueB (toI (lget r 2 .unk)) (toI (lget r 3 .unk)) (toB (lget r 4 .unk)) (toS (lget r 5 .unk)) = true) (h4 : valueB (toI (lget r 6 .unk)) (toI (lget r 7 .unk)) (toB (lget r 8 .unk)) (toS (lget r 9 .unk)) = true)
    (h5 : intOK (toI (lget r 3 .unk)) = true) (h6 : intOK (toI (lget r 7 .unk)) = true) : good k (d + 1) (statJ r) := by
  unfold statJ statPs
  refine good_objJ (by simp; omega) (by simp only [List.map_cons, List.map_nil]; decide) ?_ ?_
  · exact all_cons (goodS_lit hk (by simp) rfl) (all_cons (goodS_lit hk (by simp) rfl) (all_cons (goodS_lit hk (by simp) rfl) (all_cons (goodS_lit hk (by simp) rfl) all_nil)))
  · exact all_cons (good_int h1) (all_cons (good_int h2) (all_cons (good_scalar hk h3 h5) (all_cons (good_scalar hk h4 h6) all_nil)))
theorem good_col {k d : Nat} (hk : 100 ≤ k) {r : List AV} (h1 : intOK (toI (lget r 0 .unk)) = true) (h2 : nameB (toS (lget r 1 .unk)) = true) (h3 : intOK (toI (lget r 2 .unk)) = true) : good k (d + 1) (colJ r) := by
  unfold colJ colPs
  refine good_objJ (by simp; omega) (by simp only [List.map_cons, List.map_nil]; decide) ?_ ?_
  · exact all_cons (goodS_lit hk (by simp) rfl) (all_cons (goodS_lit hk (by simp) rfl) (all_cons (goodS_lit hk (by simp) rfl) all_nil))
  · exact all_cons (good_int h1) (all_cons (good_text (goodS_name hk h2)) (all_cons (good_int h3) all_nil))
theorem good_field {k d : Nat} (hk : 100 ≤ k) {r : List AV} (h1 : intOK (toI (lget r 0 .unk)) = true) (h2 : intOK (toI (lget r 1 .unk)) = true) (h3 : intOK (toI (lget r 2 .unk)) = true) : good k (d + 1) (fieldJ r) := by
  unfold fieldJ fieldPs
  refine good_objJ (by simp; omega) (by simp only [List.map_cons, List.map_nil]; decide) ?_ ?_
  · exact all_cons (goodS_lit hk (by simp) rfl) (all_cons (goodS_lit hk (by simp) rfl) (all_cons (goodS_lit hk (by simp) rfl) all_nil))
  · exact all_cons (good_int h1) (all_cons (good_int h2) (all_cons (good_int h3) all_nil))
theorem mayA_good {k : Nat} (hk : 100 ≤ k) (x0 : Int) (x1 : LB) (x2 : Int) (x3 : Int) (x4 : LR) (x5 : LR) (x6 : LB) (x7 : LB) (x8 : LB) (x9 : Int) (x10 : Int) (x11 : LR) (x12 : Int) (x13 : Int) (x14 : LR) (x15 : LB) (x16 : Int) (x17 : Int) (x18 : Int) (x19 : Int) (h : mayA x0 x1 x2 x3 x4 x5 x6 x7 x8 x9 x10 x11 x12 x13 x14 x15 x16 x17 x18 x19 = true) (hw : wfA x4 x5 x19) : good k 15 (objJ (onePs x0 x1 x2 x3 x4 x5 x6 x7 x8 x9 x10 x11 x12 x13 x14 x15 x16 x17 x18 x19)) ∧ x4.length ≤ 12 ∧ x5.length ≤ 12 ∧ x11.length ≤ 12 ∧ x14.length ≤ 12 := by
  obtain ⟨w1, w2, w3⟩ := hw
  simp only [intOK, Bool.and_eq_true, decide_eq_true_eq] at w3
  rcases mayA_cases _ _ _ _ _ _ _ _ _ _ _ _ _ _ _ _ _ _ _ _ h with ⟨rfl, c, b⟩ | ⟨rfl, c, b⟩ | ⟨rfl, c, b⟩ | ⟨rfl, c, b⟩ | ⟨rfl, c, b⟩ | ⟨rfl, c, b⟩ | ⟨rfl, c, b⟩
  · obtain ⟨b1, b2, b3, b4, b5, b10, b12, b11, b13, b14, b6, b7, b8, b9, b15, b16, b17, b18, b19⟩ := bareB_imp _ _ _ _ _ _ _ _ _ _ _ _ _ _ _ _ _ _ _ _ _ _ _ _ _ _ _ _ _ _ _ _ _ _ _ _ _ _ _ _ b
    simp only [List.length_nil] at b4 b5 b11 b14
    obtain ⟨c1, c2, c3, c4, c5, c6, c7⟩ := fileB_imp c
    refine ⟨?_, by omega, by omega, by omega, by omega⟩
    show good k 15 (objJ [([97, 100, 100], objJ [([112, 97, 116, 104], J.text x1), ([114, 111, 119, 115], J.int x2), ([115, 112, 101, 99], J.int x3), ([112, 97, 114, 116], J.list (x4.map valJ)), ([115, 116, 97, 116, 115], J.list (x5.map statJ))])])
    refine good_objJ (by simp; omega) (by simp only [List.map_cons, List.map_nil]; decide) (all_cons (goodS_lit hk (by simp) rfl) all_nil) (all_cons ?_ all_nil)
    refine good_objJ (by simp; omega) (by simp only [List.map_cons, List.map_nil]; decide) (all_cons (goodS_lit hk (by simp) rfl) (all_cons (goodS_lit hk (by simp) rfl) (all_cons (goodS_lit hk (by simp) rfl) (all_cons (goodS_lit hk (by simp) rfl) (all_cons (goodS_lit hk (by simp) rfl) all_nil))))) (all_cons (good_text (goodS_key hk c1)) (all_cons (good_int (intOK_in (by omega) (by omega))) (all_cons (good_int (intOK_in (by omega) (by omega))) (all_cons (good_list (by simp; omega) ?_) (all_cons (good_list (by simp; omega) ?_) all_nil)))))
    · intro j hj
      obtain ⟨v, hv, rfl⟩ := List.mem_map.1 hj
      exact good_scalar hk (c6 v hv) (w1 v hv)
    · intro j hj
      obtain ⟨v, hv, rfl⟩ := List.mem_map.1 hj
      obtain ⟨s1, s2, s3⟩ := statsB_mem c7 v hv
      obtain ⟨t1, t2, t3⟩ := w2 v hv
      exact good_stat hk t1 (intOK_in (by omega) (by omega)) s2 s3 t2 t3
  · obtain ⟨b1, b2, b3, b4, b5, b10, b12, b11, b13, b14, b6, b7, b8, b9, b15, b16, b17, b18, b19⟩ := bareB_imp _ _ _ _ _ _ _ _ _ _ _ _ _ _ _ _ _ _ _ _ _ _ _ _ _ _ _ _ _ _ _ _ _ _ _ _ _ _ _ _ b
    simp only [List.length_nil] at b4 b5 b11 b14
    refine ⟨?_, by omega, by omega, by omega, by omega⟩
    show good k 15 (objJ [([114, 101, 109, 111, 118, 101], J.text x6)])
    exact (good_objJ (by simp; omega) (by simp only [List.map_cons, List.map_nil]; decide) (all_cons (goodS_lit hk (by simp) rfl) all_nil) (all_cons (good_text (goodS_key hk c)) all_nil))
  · obtain ⟨b1, b2, b3, b4, b5, b10, b12, b11, b13, b14, b6, b7, b8, b9, b15, b16, b17, b18, b19⟩ := bareB_imp _ _ _ _ _ _ _ _ _ _ _ _ _ _ _ _ _ _ _ _ _ _ _ _ _ _ _ _ _ _ _ _ _ _ _ _ _ _ _ _ b
    simp only [List.length_nil] at b4 b5 b11 b14
    obtain ⟨c1, c2, c3, c4⟩ := markB_imp c
    refine ⟨?_, by omega, by omega, by omega, by omega⟩
    show good k 15 (objJ [([109, 97, 114, 107], objJ [([112, 97, 116, 104], J.text x7), ([102, 105, 108, 101], J.text x8), ([114, 111, 119, 115], J.int x9)])])
    exact (good_objJ (by simp; omega) (by simp only [List.map_cons, List.map_nil]; decide) (all_cons (goodS_lit hk (by simp) rfl) all_nil) (all_cons (good_objJ (by simp; omega) (by simp only [List.map_cons, List.map_nil]; decide) (all_cons (goodS_lit hk (by simp) rfl) (all_cons (goodS_lit hk (by simp) rfl) (all_cons (goodS_lit hk (by simp) rfl) all_nil))) (all_cons (good_text (goodS_key hk c1)) (all_cons (good_text (goodS_key hk c2)) (all_cons (good_int (intOK_in (by omega) (by omega))) all_nil)))) all_nil))
  · obtain ⟨b1, b2, b3, b4, b5, b10, b12, b11, b13, b14, b6, b7, b8, b9, b15, b16, b17, b18, b19⟩ := bareB_imp _ _ _ _ _ _ _ _ _ _ _ _ _ _ _ _ _ _ _ _ _ _ _ _ _ _ _ _ _ _ _ _ _ _ _ _ _ _ _ _ b
    simp only [List.length_nil] at b4 b5 b11 b14
    obtain ⟨c1, c2, c3, c4⟩ := schemaB_imp c
    refine ⟨?_, by omega, by omega, by omega, by omega⟩
    show good k 15 (objJ [([115, 99, 104, 101, 109, 97], objJ [([105, 100], J.int x10), ([110, 101, 120, 116], J.int x12), ([99, 111, 108, 117, 109, 110, 115], J.list (x11.map colJ))])])
    refine good_objJ (by simp; omega) (by simp only [List.map_cons, List.map_nil]; decide) (all_cons (goodS_lit hk (by simp) rfl) all_nil) (all_cons ?_ all_nil)
    refine good_objJ (by simp; omega) (by simp only [List.map_cons, List.map_nil]; decide) (all_cons (goodS_lit hk (by simp) rfl) (all_cons (goodS_lit hk (by simp) rfl) (all_cons (goodS_lit hk (by simp) rfl) all_nil))) (all_cons (good_int (intOK_in (by omega) (by omega))) (all_cons (good_int (intOK_in (by omega) (by omega))) (all_cons (good_list (by simp; omega) ?_) all_nil)))
    intro j hj
    obtain ⟨v, hv, rfl⟩ := List.mem_map.1 hj
    obtain ⟨s1, s2, s3, s4, s5⟩ := colsB_mem c4 v hv
    exact good_col hk (intOK_in (by omega) (by omega)) s3 (intOK_in (by omega) (by omega))
  · obtain ⟨b1, b2, b3, b4, b5, b10, b12, b11, b13, b14, b6, b7, b8, b9, b15, b16, b17, b18, b19⟩ := bareB_imp _ _ _ _ _ _ _ _ _ _ _ _ _ _ _ _ _ _ _ _ _ _ _ _ _ _ _ _ _ _ _ _ _ _ _ _ _ _ _ _ b
    simp only [List.length_nil] at b4 b5 b11 b14
    obtain ⟨c1, c2, c3⟩ := specB_imp c
    refine ⟨?_, by omega, by omega, by omega, by omega⟩
    show good k 15 (objJ [([115, 112, 101, 99], objJ [([105, 100], J.int x13), ([102, 105, 101, 108, 100, 115], J.list (x14.map fieldJ))])])
    refine good_objJ (by simp; omega) (by simp only [List.map_cons, List.map_nil]; decide) (all_cons (goodS_lit hk (by simp) rfl) all_nil) (all_cons ?_ all_nil)
    refine good_objJ (by simp; omega) (by simp only [List.map_cons, List.map_nil]; decide) (all_cons (goodS_lit hk (by simp) rfl) (all_cons (goodS_lit hk (by simp) rfl) all_nil)) (all_cons (good_int (intOK_in (by omega) (by omega))) (all_cons (good_list (by simp; omega) ?_) all_nil))
    intro j hj
    obtain ⟨v, hv, rfl⟩ := List.mem_map.1 hj
    obtain ⟨s1, s2, s3⟩ := fieldRow_imp (c3 v hv)
    exact good_field hk (intOK_in (by omega) (by omega)) (intOK_in (by omega) (by omega)) (intOK_in (by omega) (by omega))
  · obtain ⟨b1, b2, b3, b4, b5, b10, b12, b11, b13, b14, b6, b7, b8, b9, b15, b16, b17, b18, b19⟩ := bareB_imp _ _ _ _ _ _ _ _ _ _ _ _ _ _ _ _ _ _ _ _ _ _ _ _ _ _ _ _ _ _ _ _ _ _ _ _ _ _ _ _ b
    simp only [List.length_nil] at b4 b5 b11 b14
    refine ⟨?_, by omega, by omega, by omega, by omega⟩
    show good k 15 (objJ [([116, 120, 110], J.text x15)])
    exact (good_objJ (by simp; omega) (by simp only [List.map_cons, List.map_nil]; decide) (all_cons (goodS_lit hk (by simp) rfl) all_nil) (all_cons (good_text (goodS_key hk c)) all_nil))
  · obtain ⟨b1, b2, b3, b4, b5, b10, b12, b11, b13, b14, b6, b7, b8, b9, b15, b16, b17, b18, b19⟩ := bareB_imp _ _ _ _ _ _ _ _ _ _ _ _ _ _ _ _ _ _ _ _ _ _ _ _ _ _ _ _ _ _ _ _ _ _ _ _ _ _ _ _ b
    simp only [List.length_nil] at b4 b5 b11 b14
    obtain ⟨c1, c2, c3, c4⟩ := infoB_imp c
    refine ⟨?_, by omega, by omega, by omega, by omega⟩
    show good k 15 (objJ [([105, 110, 102, 111], objJ [([99, 108, 105, 101, 110, 116], J.int x16), ([115, 101, 113], J.int x17), ([111, 112], J.int x18), ([116, 105, 109, 101], J.int x19)])])
    exact (good_objJ (by simp; omega) (by simp only [List.map_cons, List.map_nil]; decide) (all_cons (goodS_lit hk (by simp) rfl) all_nil) (all_cons (good_objJ (by simp; omega) (by simp only [List.map_cons, List.map_nil]; decide) (all_cons (goodS_lit hk (by simp) rfl) (all_cons (goodS_lit hk (by simp) rfl) (all_cons (goodS_lit hk (by simp) rfl) (all_cons (goodS_lit hk (by simp) rfl) all_nil)))) (all_cons (good_int (intOK_in (by omega) (by omega))) (all_cons (good_int (intOK_in (by omega) (by omega))) (all_cons (good_int (intOK_in (by omega) (by omega))) (all_cons (good_int (intOK_in (by omega) (by omega))) all_nil))))) all_nil))
theorem mayRow_good {k : Nat} (hk : 100 ≤ k) {r : List AV} (h : mayRow r = true) (hw : wfRow r) : good k 15 (oneJ r) ∧ shortRow k r := by
  obtain ⟨a, b, c, d, e⟩ := mayA_good hk _ _ _ _ _ _ _ _ _ _ _ _ _ _ _ _ _ _ _ _ h hw
  exact ⟨a, by omega, by omega, by omega, by omega⟩
end Go.AI

/-
  PLAIN LAWS: Put.
-/
set_option maxRecDepth 100000
set_option linter.unusedVariables false
set_option linter.unusedSimpArgs false
namespace Go.AI
open Go.Proofs

/-- does Put take these actions? -/
noncomputable def putOK (x : LR) : Bool := x.all mayRow && Nat.ble (putP (x.map oneJ)).length 65536
noncomputable def putT (x : LR) : LB := bif putOK x then putP (x.map oneJ) else []
noncomputable def putN (x : LR) : Int := bif putOK x then 0 else 1900
theorem put_run {α : Type} (k : Nat) (hk : 100 ≤ k) (hk2 : k ≤ 1000000000000) (x : LR) (hx : x.length < k) (hw : ∀ r ∈ x, wfRow r) (K : LB → Int → Option α) : ∀ (l : LR) (f : Nat) (pre : LR), x = pre ++ l → l.length < f → (∀ r ∈ pre, mayRow r = true) →
    L11al0 k K x f (pre.length : Int) = K (putT x) (putN x) := by
  intro l
  induction l with
  | nil =>
    intro f pre hp hf hm
    obtain ⟨f, rfl⟩ : ∃ g, f = g + 1 := ⟨f - 1, by omega⟩
    rw [List.append_nil] at hp
    have e : ilt (pre.length : Int) (rlen x) = false := by rw [hp]; simp [ilt, rlen]
    have hall : x.all mayRow = true := by rw [hp, List.all_eq_true]; exact hm
    have hgood : ∀ r ∈ x, good k 15 (oneJ r) ∧ shortRow k r := fun r hr => mayRow_good hk (hm r (hp ▸ hr)) (hw r hr)
    simp only [L11al0, T11al0, e, cond_false]
    rw [f42 k (by omega) hk2 x hx (fun r hr => (hgood r hr).2)]
    obtain ⟨g1, g2⟩ := f41 k (by omega) hk2 (x.map oneJ) (by simpa using hx) (fun j hj => by
      obtain ⟨r, hr, rfl⟩ := List.mem_map.1 hj
      exact (hgood r hr).1) (fun y1 y2 => (bif (ine y2 (0 : Int)) then (K ([] : LB) (1900 : Int)) else (K y1 (0 : Int))))
    unfold putT putN putOK
    rw [hall, Bool.true_and]
    by_cases h : (putP (x.map oneJ)).length ≤ 65536
    · rw [Nat.ble_eq_true_of_le h]
      exact (g1 h).trans rfl
    · have hb : Nat.ble (putP (x.map oneJ)).length 65536 = false := by
        cases hh : Nat.ble (putP (x.map oneJ)).length 65536
        · rfl
        · exact absurd (Nat.le_of_ble_eq_true hh) h
      rw [hb]
      obtain ⟨e, he, g⟩ := g2 (by omega)
      refine g.trans ?_
      have : ine e 0 = true := by simp [ine, he]
      rw [this]; rfl
  | cons r l ih =>
    intro f pre hp hf hm
    obtain ⟨f, rfl⟩ : ∃ g, f = g + 1 := ⟨f - 1, by omega⟩
    have hl : x.length = pre.length + (l.length + 1) := by rw [hp]; simp
    have e1 : ilt (pre.length : Int) (rlen x) = true := by rw [hp]; exact ilt_pre pre r l
    have e2 : rget x (pre.length : Int) = r := by rw [hp]; exact rget_pre pre r l
    simp only [L11al0, T11al0, e1, e2, ile_pre, cond_true, wadd_pre pre r (by omega), f9 k hk]
    show (bif !(mayRow r) then _ else _) = _
    cases hr : mayRow r
    · have : putOK x = false := by
        unfold putOK
        rw [hp, List.all_append, List.all_cons, hr]; simp
      unfold putT putN
      rw [this]; rfl
    · simp only [Bool.not_true, cond_false]
      exact ih f (pre ++ [r]) (by rw [hp, app_snoc]) (by simpa using hf) (fun q hq => by
        rcases List.mem_append.1 hq with hq | hq
        · exact hm q hq
        · simp at hq; rw [hq]; exact hr)
/-- Put, whatever it is handed -/
theorem f11 {α : Type} (k : Nat) (hk : 100 ≤ k) (hk2 : k ≤ 1000000000000) (x : LR) (hx : x.length < k) (hw : ∀ r ∈ x, wfRow r) (K : LB → Int → Option α) : f11a k x K = K (putT x) (putN x) := by
  unfold f11a T11a
  exact put_run k hk hk2 x hx hw K x k [] rfl hx (fun r hr => by simp at hr)
end Go.AI

/-
  PLAIN LAWS: the parser, its small steps.
-/
set_option maxRecDepth 100000
set_option linter.unusedVariables false
set_option linter.unusedSimpArgs false
namespace Go.AI
open Go.Proofs

/-- where in x the rest S begins -/
def at_ (x S : LB) : Int := (x.length : Int) - (S.length : Int)
/-- what a step of the parser comes to: a result, or a panic -/
def PR {β : Type} (F : (α : Type) → (β → Option α) → (Int → LB → Int → Option α) → Option α) (o : Option β) : Prop :=
  (∃ b, o = some b ∧ ∀ (α : Type) (K : β → Option α) (E : Int → LB → Int → Option α), F α K E = K b) ∨
  (o = none ∧ ∃ (e : Int) (x' : LB) (i' : Int), e ≠ 0 ∧ ∀ (α : Type) (K : β → Option α) (E : Int → LB → Int → Option α), F α K E = E e x' i')
theorem PR.ok {β : Type} {F : (α : Type) → (β → Option α) → (Int → LB → Int → Option α) → Option α} {b : β} (h : ∀ (α : Type) (K : β → Option α) (E : Int → LB → Int → Option α), F α K E = K b) : PR F (some b) := .inl ⟨b, rfl, h⟩
theorem PR.bad {β : Type} {F : (α : Type) → (β → Option α) → (Int → LB → Int → Option α) → Option α} (e : Int) (x' : LB) (i' : Int) (he : e ≠ 0) (h : ∀ (α : Type) (K : β → Option α) (E : Int → LB → Int → Option α), F α K E = E e x' i') : PR F none := .inr ⟨rfl, e, x', i', he, h⟩
theorem PR.bind {β γ : Type} {F : (α : Type) → (β → Option α) → (Int → LB → Int → Option α) → Option α} {G : β → (α : Type) → (γ → Option α) → (Int → LB → Int → Option α) → Option α} {o : Option β} {g : β → Option γ}
    (hF : PR F o) (hG : ∀ b, o = some b → PR (G b) (g b)) : PR (fun α K E => F α (fun b => G b α K E) E) (o.bind g) := by
  rcases hF with ⟨b, rfl, h⟩ | ⟨rfl, e, x', i', he, h⟩
  · rcases hG b rfl with ⟨c, hc, h2⟩ | ⟨hc, e, x', i', he, h2⟩
    · exact .inl ⟨c, hc, fun α K E => (h α _ E).trans (h2 α K E)⟩
    · exact .inr ⟨hc, e, x', i', he, fun α K E => (h α _ E).trans (h2 α K E)⟩
  · exact .inr ⟨rfl, e, x', i', he, fun α K E => h α _ E⟩
theorem PR.congr {β : Type} {F F' : (α : Type) → (β → Option α) → (Int → LB → Int → Option α) → Option α} {o o' : Option β} (h : PR F o) (e : ∀ α K E, F' α K E = F α K E) (eo : o' = o) : PR F' o' := by
  have : F' = F := by funext α K E; exact e α K E
  rw [this, eo]; exact h

theorem suf_cons {c : UInt8} {l x : LB} (h : (c :: l) <:+ x) : l <:+ x := (List.suffix_cons c l).trans h
theorem suf_drop {S x : LB} (n : Nat) (h : S <:+ x) : S.drop n <:+ x := (List.drop_suffix n S).trans h
theorem at_pre {pre S : LB} : at_ (pre ++ S) S = (pre.length : Int) := by unfold at_; rw [List.length_append]; omega
theorem at_le {S x : LB} (h : S <:+ x) : 0 ≤ at_ x S ∧ at_ x S ≤ x.length := by
  have := h.length_le; unfold at_; omega
theorem at_end {x : LB} : at_ x [] = slen x := by unfold at_; simp [slen]
theorem at_nil {x : LB} : ige (at_ x []) (slen x) = true ∧ ilt (at_ x []) (slen x) = false := by rw [at_end]; simp [ige, ilt]
theorem at_cons {c : UInt8} {l x : LB} (h : (c :: l) <:+ x) : ige (at_ x (c :: l)) (slen x) = false ∧ ilt (at_ x (c :: l)) (slen x) = true ∧ ile 0 (at_ x (c :: l)) = true ∧ sat x (at_ x (c :: l)) = (c.toNat : Int) := by
  obtain ⟨pre, rfl⟩ := h
  rw [at_pre]
  exact ⟨by simp [ige, slen]; omega, ilt_pre' _ _ _, ile_pre _, sat_pre _ _ _⟩
theorem at_step {c : UInt8} {l x : LB} (h : (c :: l) <:+ x) (hb : x.length ≤ 100000000) : wadd .i64 (at_ x (c :: l)) 1 = at_ x l := by
  have := h.length_le
  simp at this
  rw [wadd_in (by unfold at_; simp; omega) (by unfold at_; simp; omega)]
  unfold at_; simp; omega
theorem at_inj {x S S' : LB} (h : at_ x S = at_ x S') : S.length = S'.length := by unfold at_ at h; omega
theorem box_same (x : LB) (p : Int) : sameOs [AObj.box [.s x, .i .i64 p]] [AObj.box [.s x, .i .i64 p]] = true := sameOs_self (by intro o ho; simp only [List.mem_singleton] at ho; exact ⟨_, ho⟩)

/-! ### next, white, take, word -/
def headP : LB → Int
  | [] => 0
  | c :: _ => (c.toNat : Int)
theorem f125 {α : Type} (k : Nat) (x S : LB) (h : S <:+ x) (K : Int → Option α) : f125a k x (at_ x S) K = K (headP S) := by
  unfold f125a T125a
  cases S with
  | nil => rw [at_nil.1]; rfl
  | cons c l =>
    obtain ⟨h1, h2, h3, h4⟩ := at_cons h
    rw [h1, h2, h3, h4]; rfl
def isW (c : UInt8) : Bool := bif ieq (c.toNat : Int) 32 then true else (bif ieq (c.toNat : Int) 9 then true else (bif ieq (c.toNat : Int) 10 then true else ieq (c.toNat : Int) 13))
def whiteP (S : LB) : LB := S.dropWhile isW
theorem white_suf (S x : LB) (h : S <:+ x) : whiteP S <:+ x := (List.dropWhile_suffix _).trans h
theorem white_len (S : LB) : (whiteP S).length ≤ S.length := (List.dropWhile_suffix (l := S) isW).length_le
theorem white_run {α : Type} (k : Nat) (x : LB) (hb : x.length ≤ 100000000) (K : Int → Option α) : ∀ (S : LB) (f : Nat), S <:+ x → S.length < f → L76al0 k K x f (at_ x S) = K (at_ x (whiteP S)) := by
  intro S
  induction S with
  | nil =>
    intro f h hf
    obtain ⟨f, rfl⟩ : ∃ g, f = g + 1 := ⟨f - 1, by omega⟩
    simp only [L76al0, T76al0, at_nil.2, cond_false]; rfl
  | cons c l ih =>
    intro f h hf
    obtain ⟨f, rfl⟩ : ∃ g, f = g + 1 := ⟨f - 1, by omega⟩
    obtain ⟨h1, h2, h3, h4⟩ := at_cons h
    simp only [L76al0, T76al0, h2, h3, h4, cond_true, at_step h hb]
    rw [ih f (suf_cons h) (by simpa using hf)]
    unfold whiteP
    rw [List.dropWhile_cons]
    unfold isW
    cases ieq (c.toNat : Int) 32
    · cases ieq (c.toNat : Int) 9
      · cases ieq (c.toNat : Int) 10
        · cases ieq (c.toNat : Int) 13 <;> rfl
        · rfl
      · rfl
    · rfl
theorem f76 {α : Type} (k : Nat) (x S : LB) (hb : x.length ≤ 100000000) (hk : x.length < k) (h : S <:+ x) (K : Int → Option α) : f76a k x (at_ x S) K = K (at_ x (whiteP S)) := by
  unfold f76a T76a
  exact white_run k x hb K S k h (by have := h.length_le; omega)
def takeP (c : Int) : LB → Option LB
  | [] => none
  | a :: l => bif ieq (a.toNat : Int) c then some l else none
theorem takeP_cons (c : Int) (a : UInt8) (l : LB) : takeP c (a :: l) = bif ieq (a.toNat : Int) c then some l else none := rfl
theorem ine_ieq (a c : Int) : ine a c = !(ieq a c) := rfl
theorem f154 (k : Nat) (c : Int) (x S : LB) (hb : x.length ≤ 100000000) (h : S <:+ x) : PR (fun α K E => f154a k c x (at_ x S) K E) ((takeP c S).map (at_ x)) := by
  cases S with
  | nil =>
    refine PR.bad 300 x (at_ x []) (by decide) fun α K E => ?_
    simp only [f154a, T154a, at_nil.1, cond_true, f78a, T78a]
  | cons a l =>
    obtain ⟨h1, h2, h3, h4⟩ := at_cons h
    rw [takeP_cons]
    cases hc : ieq (a.toNat : Int) c
    · refine PR.bad 300 x (at_ x (a :: l)) (by decide) fun α K E => ?_
      simp only [f154a, T154a, h1, h2, h3, h4, cond_true, cond_false, ine_ieq, hc, Bool.not_false, f78a, T78a]
    · refine PR.ok fun α K E => ?_
      simp only [f154a, T154a, h1, h2, h3, h4, cond_true, cond_false, ine_ieq, hc, Bool.not_true, L154aj0, T154aj0, at_step h hb]
theorem take_some {c : Int} {S l : LB} (h : takeP c S = some l) : ∃ a, S = a :: l ∧ (a.toNat : Int) = c := by
  cases S with
  | nil => cases h
  | cons a m =>
    rw [takeP_cons] at h
    cases hc : ieq (a.toNat : Int) c
    · rw [hc] at h; cases h
    · rw [hc] at h; cases h; exact ⟨a, rfl, (ieq_iff _ _).1 hc⟩
def wordP : LB → LB → Option LB
  | [], S => some S
  | a :: w, S => (takeP (a.toNat : Int) S).bind (wordP w)
theorem word_suf : ∀ {w S l : LB}, wordP w S = some l → l <:+ S
  | [], S, l, h => by cases h; exact List.suffix_refl _
  | a :: w, S, l, h => by
    unfold wordP at h
    cases ht : takeP (a.toNat : Int) S with
    | none => rw [ht] at h; cases h
    | some m =>
      rw [ht] at h
      obtain ⟨b, rfl, _⟩ := take_some ht
      exact (word_suf h).trans (List.suffix_cons b m)
theorem word_run (k : Nat) (x w0 : LB) (hb : x.length ≤ 100000000) (hw : w0.length ≤ 1000) : ∀ (w : LB) (f : Nat) (pre S : LB), w0 = pre ++ w → S <:+ x → w.length < f →
    PR (fun α K E => L126al0 k K E x w0 f (pre.length : Int) (at_ x S)) ((wordP w S).map (at_ x)) := by
  intro w
  induction w with
  | nil =>
    intro f pre S hp h hf
    obtain ⟨f, rfl⟩ : ∃ g, f = g + 1 := ⟨f - 1, by omega⟩
    refine PR.ok fun α K E => ?_
    have : ilt (pre.length : Int) (slen w0) = false := by rw [hp]; exact ilt_end' pre
    simp only [L126al0, T126al0, this, cond_false]
  | cons a w ih =>
    intro f pre S hp h hf
    obtain ⟨f, rfl⟩ : ∃ g, f = g + 1 := ⟨f - 1, by omega⟩
    have hl : w0.length = pre.length + (w.length + 1) := by rw [hp]; simp
    have e1 : ilt (pre.length : Int) (slen w0) = true := by rw [hp]; exact ilt_pre' pre a w
    have e2 : sat w0 (pre.length : Int) = (a.toNat : Int) := by rw [hp]; exact sat_pre pre a w
    have hb' := (f154 k (a.toNat : Int) x S hb h).bind (G := fun q α K E => L126al0 k K E x w0 f ((pre ++ [a]).length : Int) q) (g := fun q => ((takeP (a.toNat : Int) S).bind (wordP w)).map (at_ x)) fun q hq => by
      cases ht : takeP (a.toNat : Int) S with
      | none => rw [ht] at hq; cases hq
      | some m =>
        rw [ht] at hq; cases hq
        obtain ⟨b, rfl, _⟩ := take_some ht
        exact ih f (pre ++ [a]) m (by rw [hp, app_snoc]) (suf_cons h) (by simpa using hf)
    refine hb'.congr (fun α K E => ?_) ?_
    · simp only [L126al0, T126al0, e1, e2, ile_pre, cond_true, wadd_pre pre a (by omega)]
    · unfold wordP
      cases takeP (a.toNat : Int) S <;> rfl
theorem f126 (k : Nat) (w x S : LB) (hb : x.length ≤ 100000000) (hw : w.length ≤ 1000) (hk : w.length < k) (h : S <:+ x) : PR (fun α K E => f126a k w x (at_ x S) K E) ((wordP w S).map (at_ x)) :=
  word_run k x w hb hw w k [] S rfl h hk
end Go.AI

/-
  PLAIN LAWS: the parser's texts.
-/
set_option maxRecDepth 100000
set_option linter.unusedVariables false
set_option linter.unusedSimpArgs false
namespace Go.AI
open Go.Proofs

theorem wrap_ok (n : Int) : intOK (IntKind.i64.wrap n) = true := by
  refine intOK_in ?_ ?_ <;> (simp only [IntKind.wrap, IntKind.signed, IntKind.bits]; simp; omega)
/-! ### four digits -/
def hexD (y acc : Int) : Option Int :=
  bif (bif ige y 48 then ile y 57 else false) then some (wadd .i64 (wmul .i64 16 acc) (wcv .i64 (wsub .u8 y 48)))
  else (bif (bif ige (wor .u8 y 32) 97 then ile (wor .u8 y 32) 102 else false) then some (wadd .i64 (wadd .i64 (wmul .i64 16 acc) (wcv .i64 (wsub .u8 (wor .u8 y 32) 97))) 10) else none)
def hexP : Nat → Int → LB → Option (Int × LB)
  | 0, acc, S => some (acc, S)
  | _ + 1, _, [] => none
  | n + 1, acc, c :: l => (hexD (c.toNat : Int) acc).bind fun a => hexP n a l
theorem hexD_ok {y acc a : Int} (h : hexD y acc = some a) : intOK a = true := by
  unfold hexD at h
  cases h1 : (bif ige y 48 then ile y 57 else false)
  · rw [h1, cond_false] at h
    cases h2 : (bif ige (wor .u8 y 32) 97 then ile (wor .u8 y 32) 102 else false)
    · rw [h2] at h; cases h
    · rw [h2] at h; cases h; exact wrap_ok _
  · rw [h1] at h; cases h; exact wrap_ok _
theorem hexP_ok : ∀ {n : Nat} {acc : Int} {S : LB} {r : Int × LB}, hexP n acc S = some r → (intOK acc = true → intOK r.1 = true) ∧ r.2 <:+ S
  | 0, acc, S, r, h => by cases h; exact ⟨fun h => h, List.suffix_refl _⟩
  | n + 1, acc, [], r, h => by cases h
  | n + 1, acc, c :: l, r, h => by
    unfold hexP at h
    cases hd : hexD (c.toNat : Int) acc with
    | none => rw [hd] at h; cases h
    | some a =>
      rw [hd] at h
      obtain ⟨h1, h2⟩ := hexP_ok (n := n) h
      exact ⟨fun _ => h1 (hexD_ok hd), h2.trans (List.suffix_cons c l)⟩
theorem hex_step {α : Type} (k f s : Nat) (hs : s < 4) (x S : LB) (h : S <:+ x) (acc : Int) (K : Int → Int → Option α) (E : Int → LB → Int → Option α) :
    L163al0 k K E x (f + 1) acc (s : Int) (at_ x S) = (match hexD (headP S) acc with
      | some a => L163al0 k K E x f a ((s + 1 : Nat) : Int) (wadd .i64 (at_ x S) 1)
      | none => E 300 x (at_ x S)) := by
  have e1 : ilt (s : Int) 4 = true := by simp [ilt]; omega
  have e2 : wadd .i64 (s : Int) 1 = ((s + 1 : Nat) : Int) := by rw [wadd_in (by omega) (by omega)]; simp
  simp only [L163al0, T163al0, e1, cond_true, f125 k x S h, box_same, L163aj9, T163aj9, L163aj8, T163aj8, L163aj10, T163aj10, e2]
  unfold hexD
  cases ige (headP S) 48
  · cases ige (wor .u8 (headP S) 32) 97
    · rfl
    · cases ile (wor .u8 (headP S) 32) 102 <;> rfl
  · cases ile (headP S) 57
    · cases ige (wor .u8 (headP S) 32) 97
      · rfl
      · cases ile (wor .u8 (headP S) 32) 102 <;> rfl
    · rfl
theorem hexD_zero (acc : Int) : hexD 0 acc = none := rfl
theorem hex_run (k : Nat) (x : LB) (hb : x.length ≤ 100000000) : ∀ (n f s : Nat) (acc : Int) (S : LB), s + n = 4 → n < f → S <:+ x →
    PR (fun α K E => L163al0 k (fun a q => K (a, q)) E x f acc (s : Int) (at_ x S)) ((hexP n acc S).map fun r => (r.1, at_ x r.2)) := by
  intro n
  induction n with
  | zero =>
    intro f s acc S hs hf h
    obtain ⟨f, rfl⟩ : ∃ g, f = g + 1 := ⟨f - 1, by omega⟩
    refine PR.ok fun α K E => ?_
    have e1 : ilt (s : Int) 4 = false := by simp [ilt]; omega
    simp only [L163al0, T163al0, e1, cond_false]
  | succ n ih =>
    intro f s acc S hs hf h
    obtain ⟨f, rfl⟩ : ∃ g, f = g + 1 := ⟨f - 1, by omega⟩
    cases S with
    | nil =>
      refine PR.bad 300 x (at_ x []) (by decide) fun α K E => ?_
      rw [hex_step k f s (by omega) x [] h]
      rfl
    | cons c l =>
      show PR _ (((hexD (c.toNat : Int) acc).bind fun a => hexP n a l).map _)
      cases hd : hexD (c.toNat : Int) acc with
      | none =>
        refine PR.bad 300 x (at_ x (c :: l)) (by decide) fun α K E => ?_
        rw [hex_step k f s (by omega) x (c :: l) h]
        simp only [headP, hd]
      | some a =>
        refine (ih f (s + 1) a l (by omega) (by omega) (suf_cons h)).congr (fun α K E => ?_) rfl
        rw [hex_step k f s (by omega) x (c :: l) h, at_step h hb]
        simp only [headP, hd]
theorem f163 (k : Nat) (x S : LB) (hb : x.length ≤ 100000000) (hk : 5 ≤ k) (h : S <:+ x) : PR (fun α K E => f163a k x (at_ x S) (fun a q => K (a, q)) E) ((hexP 4 0 S).map fun r => (r.1, at_ x r.2)) :=
  hex_run k x hb 4 k 0 0 S rfl (by omega) h

/-! ### behind a stroke -/
def putOut (r : Int) (m : LB) : Option (LB × LB) := bif ine (putE r) 0 then none else some (putS r, m)
def pairR (r : Int) (m : LB) : Option (LB × LB) := (wordP [92, 117] m).bind fun m2 => (hexP 4 0 m2).bind fun q =>
  bif ilt q.1 56320 then none else (bif igt q.1 57343 then none else putOut (wsub .i64 (wadd .i64 (wadd .i64 65536 (wshl .i64 (wsub .i64 r 55296) 10)) q.1) 56320) q.2)
def uniR (q : Int × LB) : Option (LB × LB) := bif (bif ige q.1 55296 then ilt q.1 56320 else false) then pairR q.1 q.2 else putOut q.1 q.2
def escapedP : LB → Option (LB × LB)
  | [] => none
  | c :: l => bif (bif ieq (c.toNat : Int) 34 then true else (bif ieq (c.toNat : Int) 92 then true else ieq (c.toNat : Int) 47)) then some ([c], l)
    else (bif ieq (c.toNat : Int) 98 then some ([8], l) else (bif ieq (c.toNat : Int) 102 then some ([12], l) else (bif ieq (c.toNat : Int) 110 then some ([10], l) else (bif ieq (c.toNat : Int) 114 then some ([13], l)
    else (bif ieq (c.toNat : Int) 116 then some ([9], l) else (bif ieq (c.toNat : Int) 117 then (hexP 4 0 l).bind uniR else none))))))
theorem f164 {α : Type} (k : Nat) (r : Int) (hr : intOK r = true) (K : LB → Int → Option α) : f164a k r K = K (putS r) (putE r) := by unfold f164a; rw [hr]; rfl
theorem put_pr (k : Nat) (x : LB) (r : Int) (hr : intOK r = true) (m : LB) : PR (fun α K E => L155aj21 k (fun t q => K (t, q)) E x r (at_ x m)) ((putOut r m).map fun r => (r.1, at_ x r.2)) := by
  unfold putOut
  cases h : ine (putE r) 0
  · refine PR.ok fun α K E => ?_
    simp only [L155aj21, T155aj21, f164 k r hr, h, cond_false]
  · refine PR.bad 300 x (at_ x m) (by decide) fun α K E => ?_
    simp only [L155aj21, T155aj21, f164 k r hr, h, cond_true, f78a, T78a]
theorem pair_pr (k : Nat) (x : LB) (hb : x.length ≤ 100000000) (hk : 5 ≤ k) (r : Int) (m : LB) (h : m <:+ x) : PR (fun α K E => L155aj22 k (fun t q => K (t, q)) E x r (at_ x m) true) ((pairR r m).map fun r => (r.1, at_ x r.2)) := by
  have h1 := (f126 k [92, 117] x m hb (by simp) (by simp; omega) h).bind (G := fun y3 α K E => f163a k x y3 (fun y4 y5 => (bif (ilt y4 (56320 : Int)) then (f78a k none (fun y6 => (E y6 x y5))) else (bif (igt y4 (57343 : Int)) then (f78a k none (fun y6 => (E y6 x y5))) else (L155aj25 k (fun t q => K (t, q)) E x r y4 y5)))) (fun y6 y7 y8 => (E y6 y7 y8)))
    (g := fun _ => (pairR r m).map fun r => (r.1, at_ x r.2)) fun y3 hy3 => by
      unfold pairR
      cases hw : wordP [92, 117] m with
      | none => rw [hw] at hy3; cases hy3
      | some m2 =>
        rw [hw] at hy3; cases hy3
        have hm2 : m2 <:+ x := (word_suf hw).trans h
        simp only [Option.bind_some]
        have h2 := (f163 k x m2 hb hk hm2).bind (G := fun q α K E => bif (ilt q.1 (56320 : Int)) then (f78a k none (fun y6 => (E y6 x q.2))) else (bif (igt q.1 (57343 : Int)) then (f78a k none (fun y6 => (E y6 x q.2))) else (L155aj25 k (fun t q => K (t, q)) E x r q.1 q.2)))
          (g := fun _ => ((hexP 4 0 m2).bind fun q => bif ilt q.1 56320 then none else (bif igt q.1 57343 then none else putOut (wsub .i64 (wadd .i64 (wadd .i64 65536 (wshl .i64 (wsub .i64 r 55296) 10)) q.1) 56320) q.2)).map fun r => (r.1, at_ x r.2)) fun q hq => by
            cases hh : hexP 4 0 m2 with
            | none => rw [hh] at hq; cases hq
            | some q' =>
              rw [hh] at hq; cases hq
              simp only [Option.bind_some]
              cases c1 : ilt q'.1 56320
              · cases c2 : igt q'.1 57343
                · simp only [cond_false]
                  exact (put_pr k x _ (wrap_ok _) q'.2).congr (fun α K E => rfl) rfl
                · exact PR.bad 300 x (at_ x q'.2) (by decide) fun α K E => by simp only [cond_true, cond_false, f78a, T78a]
              · exact PR.bad 300 x (at_ x q'.2) (by decide) fun α K E => by simp only [cond_true, f78a, T78a]
        refine h2.congr (fun α K E => rfl) ?_
        cases hexP 4 0 m2 <;> rfl
  refine h1.congr (fun α K E => ?_) ?_
  · simp only [L155aj22, T155aj22, cond_true]
  · unfold pairR
    cases wordP [92, 117] m <;> rfl
theorem f155 (k : Nat) (x S : LB) (hb : x.length ≤ 100000000) (hk : 5 ≤ k) (h : S <:+ x) (hS : S ≠ []) : PR (fun α K E => f155a k x (at_ x S) (fun t q => K (t, q)) E) ((escapedP S).map fun r => (r.1, at_ x r.2)) := by
  cases S with
  | nil => exact absurd rfl hS
  | cons c l =>
    have e : ∀ (α : Type) (K : LB → Int → Option α) (E : Int → LB → Int → Option α), f155a k x (at_ x (c :: l)) K E = L155aj5 k K E x (c.toNat : Int) (bif ieq (c.toNat : Int) 34 then true else (bif ieq (c.toNat : Int) 92 then true else ieq (c.toNat : Int) 47)) (at_ x l) := fun α K E => by
      unfold f155a T155a
      rw [f125 k x (c :: l) h, box_same, cond_true, at_step h hb]
      simp only [headP]
      cases ieq (c.toNat : Int) 34
      · cases ieq (c.toNat : Int) 92 <;> rfl
      · rfl
    have e0 : bytesOf [[.i .u8 (c.toNat : Int)]] = [c] := by simp [bytesOf, lget, toI]
    unfold escapedP
    dsimp only
    cases hq : (bif ieq (c.toNat : Int) 34 then true else (bif ieq (c.toNat : Int) 92 then true else ieq (c.toNat : Int) 47))
    · rw [hq] at e
      cases h1 : ieq (c.toNat : Int) 98
      · cases h2 : ieq (c.toNat : Int) 102
        · cases h3 : ieq (c.toNat : Int) 110
          · cases h4 : ieq (c.toNat : Int) 114
            · cases h5 : ieq (c.toNat : Int) 116
              · cases h6 : ieq (c.toNat : Int) 117
                · refine PR.bad 300 x (at_ x l) (by decide) fun α K E => ?_
                  rw [e]; simp only [L155aj5, T155aj5, h1, h2, h3, h4, h5, h6, cond_false, f78a, T78a]
                · simp only [cond_false, cond_true]
                  have h7 := (f163 k x l hb hk (suf_cons h)).bind (G := fun q α K E => bif (ige q.1 (55296 : Int)) then (L155aj22 k (fun t q => K (t, q)) E x q.1 q.2 (ilt q.1 (56320 : Int))) else (L155aj22 k (fun t q => K (t, q)) E x q.1 q.2 false))
                    (g := fun _ => ((hexP 4 0 l).bind uniR).map fun r => (r.1, at_ x r.2)) fun q hq => by
                      cases hh : hexP 4 0 l with
                      | none => rw [hh] at hq; cases hq
                      | some q' =>
                        rw [hh] at hq; cases hq
                        obtain ⟨o1, o2⟩ := hexP_ok hh
                        have hs : q'.2 <:+ x := o2.trans (suf_cons h)
                        simp only [Option.bind_some]
                        unfold uniR
                        cases c1 : ige q'.1 55296
                        · simp only [cond_false]
                          exact (put_pr k x q'.1 (o1 rfl) q'.2).congr (fun α K E => rfl) rfl
                        · cases c2 : ilt q'.1 56320
                          · simp only [cond_true, cond_false]
                            exact (put_pr k x q'.1 (o1 rfl) q'.2).congr (fun α K E => rfl) rfl
                          · simp only [cond_true]
                            exact pair_pr k x hb hk q'.1 q'.2 hs
                  refine h7.congr (fun α K E => ?_) ?_
                  · rw [e]; simp only [L155aj5, T155aj5, h1, h2, h3, h4, h5, h6, cond_false, cond_true]
                  · cases hexP 4 0 l <;> rfl
              · exact PR.ok fun α K E => by rw [e]; simp only [L155aj5, T155aj5, h1, h2, h3, h4, h5, cond_false, cond_true]
            · exact PR.ok fun α K E => by rw [e]; simp only [L155aj5, T155aj5, h1, h2, h3, h4, cond_false, cond_true]
          · exact PR.ok fun α K E => by rw [e]; simp only [L155aj5, T155aj5, h1, h2, h3, cond_false, cond_true]
        · exact PR.ok fun α K E => by rw [e]; simp only [L155aj5, T155aj5, h1, h2, cond_false, cond_true]
      · exact PR.ok fun α K E => by rw [e]; simp only [L155aj5, T155aj5, h1, cond_false, cond_true]
    · exact PR.ok fun α K E => by rw [e, hq]; simp only [L155aj5, T155aj5, cond_true, e0]
end Go.AI

/-
  PLAIN LAWS: the parser's texts, whole.
-/
set_option maxRecDepth 100000
set_option linter.unusedVariables false
set_option linter.unusedSimpArgs false
namespace Go.AI
open Go.Proofs

theorem putS_len (r : Int) : (putS r).length ≤ 4 := by
  unfold putS
  cases mayB r
  · simp
  · simp only [cond_true]; unfold putL
    split
    · simp
    · split
      · simp
      · split <;> simp
theorem putOut_some {r : Int} {m : LB} {o : LB × LB} (h : putOut r m = some o) : o.1.length ≤ 4 ∧ o.2 = m := by
  unfold putOut at h
  cases hc : ine (putE r) 0
  · rw [hc] at h; cases h; exact ⟨putS_len r, rfl⟩
  · rw [hc] at h; cases h
theorem pairR_some {r : Int} {m : LB} {o : LB × LB} (h : pairR r m = some o) : o.1.length ≤ 4 ∧ o.2 <:+ m := by
  unfold pairR at h
  cases hw : wordP [92, 117] m with
  | none => rw [hw] at h; cases h
  | some m2 =>
    rw [hw, Option.bind_some] at h
    cases hh : hexP 4 0 m2 with
    | none => rw [hh] at h; cases h
    | some q =>
      rw [hh, Option.bind_some] at h
      have hs := (hexP_ok hh).2.trans (word_suf hw)
      cases c1 : ilt q.1 56320
      · cases c2 : igt q.1 57343
        · rw [c1, c2] at h
          obtain ⟨a, b⟩ := putOut_some h
          exact ⟨a, b ▸ hs⟩
        · rw [c1, c2] at h; cases h
      · rw [c1] at h; cases h
theorem uniR_some {q : Int × LB} {o : LB × LB} (h : uniR q = some o) : o.1.length ≤ 4 ∧ o.2 <:+ q.2 := by
  unfold uniR at h
  cases hc : (bif ige q.1 55296 then ilt q.1 56320 else false)
  · rw [hc] at h
    obtain ⟨a, b⟩ := putOut_some h
    exact ⟨a, b ▸ List.suffix_refl _⟩
  · rw [hc] at h; exact pairR_some h
theorem escapedP_some {S : LB} {o : LB × LB} (h : escapedP S = some o) : o.1.length ≤ 4 ∧ o.2 <:+ S ∧ o.2.length < S.length := by
  cases S with
  | nil => cases h
  | cons c l =>
    have fin : o.1.length ≤ 4 ∧ o.2 <:+ l → o.1.length ≤ 4 ∧ o.2 <:+ (c :: l) ∧ o.2.length < (c :: l).length := fun ⟨a, b⟩ =>
      ⟨a, b.trans (List.suffix_cons c l), by have := b.length_le; simp; omega⟩
    apply fin
    unfold escapedP at h
    dsimp only at h
    cases hq : (bif ieq (c.toNat : Int) 34 then true else (bif ieq (c.toNat : Int) 92 then true else ieq (c.toNat : Int) 47))
    · rw [hq, cond_false] at h
      cases h1 : ieq (c.toNat : Int) 98
      · cases h2 : ieq (c.toNat : Int) 102
        · cases h3 : ieq (c.toNat : Int) 110
          · cases h4 : ieq (c.toNat : Int) 114
            · cases h5 : ieq (c.toNat : Int) 116
              · cases h6 : ieq (c.toNat : Int) 117
                · rw [h1, h2, h3, h4, h5, h6] at h; cases h
                · rw [h1, h2, h3, h4, h5, h6] at h
                  simp only [cond_false, cond_true] at h
                  cases hh : hexP 4 0 l with
                  | none => rw [hh] at h; cases h
                  | some q =>
                    rw [hh, Option.bind_some] at h
                    obtain ⟨a, b⟩ := uniR_some h
                    exact ⟨a, b.trans (hexP_ok hh).2⟩
              · rw [h1, h2, h3, h4, h5] at h; cases h; exact ⟨by simp, List.suffix_refl _⟩
            · rw [h1, h2, h3, h4] at h; cases h; exact ⟨by simp, List.suffix_refl _⟩
          · rw [h1, h2, h3] at h; cases h; exact ⟨by simp, List.suffix_refl _⟩
        · rw [h1, h2] at h; cases h; exact ⟨by simp, List.suffix_refl _⟩
      · rw [h1] at h; cases h; exact ⟨by simp, List.suffix_refl _⟩
    · rw [hq] at h; cases h; exact ⟨by simp, List.suffix_refl _⟩

/-- behind a text's first mark -/
def textN : Nat → LB → LB → Option (LB × LB)
  | 0, _, _ => none
  | n + 1, acc, S => bif ieq (headP S) 34 then some (acc, S.drop 1) else (bif ieq (headP S) 92 then (escapedP (S.drop 1)).bind fun o => textN n (acc ++ o.1) o.2
    else (bif ieq (runeP S).2 0 then none else (bif ilt (runeP S).1 32 then none else textN n (acc ++ S.take (runeP S).2.toNat) (S.drop (runeP S).2.toNat))))
theorem rune_nat (S : LB) (h : ieq (runeP S).2 0 = false) : ∃ n : Nat, 1 ≤ n ∧ n ≤ S.length ∧ (runeP S).2 = (n : Int) ∧ ∀ l', runeP (S.take n ++ l') = runeP S := by
  cases S with
  | nil => cases h
  | cons c l =>
    obtain ⟨n, h1, h2, h3, h4, h5, h6, h7, h8⟩ := runeP_some c l (by simpa [ieq] using h)
    exact ⟨n, h1, by simpa using h3, h5, h8⟩
theorem head34 {S : LB} {n : Int} (hn : n ≠ 0) (h : ieq (headP S) n = true) : ∃ c l, S = c :: l ∧ (c.toNat : Int) = n := by
  cases S with
  | nil => have := (ieq_iff _ _).1 h; simp [headP] at this; exact absurd this.symm hn
  | cons c l => exact ⟨c, l, rfl, (ieq_iff _ _).1 h⟩
theorem textN_some : ∀ {n : Nat} {acc S : LB} {o : LB × LB}, textN n acc S = some o → o.2 <:+ S ∧ o.2.length < S.length
  | 0, _, _, _, h => by cases h
  | n + 1, acc, S, o, h => by
    unfold textN at h
    cases h1 : ieq (headP S) 34
    · rw [h1, cond_false] at h
      cases h2 : ieq (headP S) 92
      · rw [h2, cond_false] at h
        cases h3 : ieq (runeP S).2 0
        · rw [h3, cond_false] at h
          obtain ⟨m, m1, m2, m3, _⟩ := rune_nat S h3
          cases h4 : ilt (runeP S).1 32
          · rw [h4, cond_false, m3, Int.toNat_natCast] at h
            obtain ⟨a, b⟩ := textN_some h
            exact ⟨a.trans (List.drop_suffix m S), by simp at b; omega⟩
          · rw [h4] at h; cases h
        · rw [h3] at h; cases h
      · rw [h2, cond_true] at h
        obtain ⟨c, l, rfl, _⟩ := head34 (by decide) h2
        simp only [List.drop_succ_cons, List.drop_zero] at h
        cases he : escapedP l with
        | none => rw [he] at h; cases h
        | some p =>
          rw [he, Option.bind_some] at h
          obtain ⟨_, e2, e3⟩ := escapedP_some he
          obtain ⟨a, b⟩ := textN_some h
          exact ⟨a.trans (e2.trans (List.suffix_cons c l)), by simp; omega⟩
    · rw [h1] at h
      obtain ⟨c, l, rfl, _⟩ := head34 (by decide) h1
      cases h
      exact ⟨List.suffix_cons c l, by simp⟩
theorem at_add {S x : LB} (n : Nat) (hn : n ≤ S.length) (h : S <:+ x) (hb : x.length ≤ 100000000) : wadd .i64 (at_ x S) (n : Int) = at_ x (S.drop n) := by
  have := h.length_le
  rw [wadd_in (by unfold at_; omega) (by unfold at_; omega)]
  unfold at_; simp; omega
theorem ssub_at {S x : LB} (n : Nat) (hn : n ≤ S.length) (h : S <:+ x) : ssub x (at_ x S) (at_ x (S.drop n)) = S.take n := by
  obtain ⟨pre, rfl⟩ := h
  have e : at_ (pre ++ S) (S.drop n) = ((pre.length + n : Nat) : Int) := by unfold at_; simp; omega
  rw [e, at_pre]
  simp only [ssub, Int.toNat_natCast, ldrop_eq]
  rw [List.take_append]
  simp
theorem text_runP (k : Nat) (x : LB) (hb : x.length ≤ 100000000) (hk : 10 ≤ k) : ∀ (n f : Nat) (acc S : LB), S.length < n → n ≤ f → S <:+ x → acc.length + 4 * S.length ≤ 1000000000 →
    PR (fun α K E => L127al0 k (fun t q => K (t, q)) E x f (byteRows acc) (at_ x S)) ((textN n acc S).map fun r => (r.1, at_ x r.2)) := by
  intro n
  induction n with
  | zero => intro f acc S hS; omega
  | succ n ih =>
    intro f acc S hS hf h ha
    obtain ⟨f, rfl⟩ : ∃ g, f = g + 1 := ⟨f - 1, by omega⟩
    unfold textN
    cases h1 : ieq (headP S) 34
    · simp only [cond_false]
      cases h2 : ieq (headP S) 92
      · simp only [cond_false]
        have step : ∀ (α : Type) (K : LB × Int → Option α) (E : Int → LB → Int → Option α), L127al0 k (fun t q => K (t, q)) E x (f + 1) (byteRows acc) (at_ x S) =
            (bif ieq (runeP S).2 0 then E 300 x (at_ x S) else (bif ilt (runeP S).1 32 then E 300 x (at_ x S) else L127aj11 k (fun a q => L127al0 k (fun t q => K (t, q)) E x f a q) (fun t q => K (t, q)) E x (byteRows acc) (at_ x S) (runeP S).2)) := fun α K E => by
          simp only [L127al0, T127al0, f125 k x S h, box_same, cond_true, ine_ieq, h1, h2, Bool.not_false, cond_false]
          obtain ⟨pre, rfl⟩ := h
          rw [at_pre, f156 k (by omega) pre S (Nat.lt_of_le_of_lt hb (by decide))]
          rfl
        cases h3 : ieq (runeP S).2 0
        · obtain ⟨m, m1, m2, m3, _⟩ := rune_nat S h3
          simp only [cond_false]
          cases h4 : ilt (runeP S).1 32
          · simp only [cond_false]
            rw [m3, Int.toNat_natCast]
            refine (ih f (acc ++ S.take m) (S.drop m) (by simp; omega) (by omega) (suf_drop m h) (by simp; omega)).congr (fun α K E => ?_) rfl
            rw [step, h3, h4]
            simp only [cond_false]
            have hl := at_le h
            have hl2 := at_le (suf_drop m h)
            have hm : at_ x S ≤ at_ x (S.drop m) := by unfold at_; rw [List.length_drop]; omega
            have e1 : ile 0 (at_ x S) = true := decide_eq_true hl.1
            have e2 : ile (at_ x S) (at_ x (S.drop m)) = true := decide_eq_true hm
            have e3 : ile (at_ x (S.drop m)) (slen x) = true := decide_eq_true hl2.2
            have e4 : room ((byteRows acc).length + (S.take m).length) 1 = true := room_in (by rw [byteRows_length]; simp; omega)
            rw [m3]
            simp only [L127aj11, T127aj11, at_add m m2 h hb, ssub_at m m2 h, e1, e2, e3, e4, cond_true, byteRows_app]
          · exact PR.bad 300 x (at_ x S) (by decide) fun α K E => by rw [step, h3, h4]; rfl
        · exact PR.bad 300 x (at_ x S) (by decide) fun α K E => by rw [step, h3]; rfl
      · simp only [cond_true]
        obtain ⟨c, l, rfl, _⟩ := head34 (by decide) h2
        simp only [List.drop_succ_cons, List.drop_zero]
        by_cases hl : l = []
        · subst hl
          have h1' : ieq (c.toNat : Int) 34 = false := h1
          have h2' : ieq (c.toNat : Int) 92 = true := h2
          refine PR.bad 300 x (wadd .i64 (at_ x []) 1) (by decide) fun α K E => ?_
          simp only [h1', h2', L127al0, T127al0, f125 k x _ h, box_same, cond_true, ine_ieq, h1, h2, Bool.not_false, at_step h hb, f155a, T155a, f125 k x [] (suf_cons h), headP, L155aj5, T155aj5]
          rfl
        · have h3 := (f155 k x l hb (by omega) (suf_cons h) hl).bind (G := fun o α K E => (bif (room ((byteRows acc).length + o.1.length) 1) then (L127al0 k (fun t q => K (t, q)) E x f (radd (byteRows acc) (byteRows o.1)) o.2) else none))
            (g := fun _ => ((escapedP l).bind fun o => textN n (acc ++ o.1) o.2).map fun r => (r.1, at_ x r.2)) fun o ho => by
              cases he : escapedP l with
              | none => rw [he] at ho; cases ho
              | some p =>
                rw [he] at ho; cases ho
                obtain ⟨e1, e2, e3⟩ := escapedP_some he
                simp only [Option.bind_some]
                have e4 : room ((byteRows acc).length + p.1.length) 1 = true := room_in (by rw [byteRows_length]; omega)
                refine (ih f (acc ++ p.1) p.2 (by simp at hS; omega) (by omega) (e2.trans (suf_cons h)) (by simp at ha ⊢; omega)).congr (fun α K E => ?_) rfl
                simp only [e4, cond_true, byteRows_app]
          refine h3.congr (fun α K E => ?_) ?_
          · simp only [L127al0, T127al0, f125 k x _ h, box_same, cond_true, ine_ieq, h1, h2, Bool.not_false, at_step h hb]
          · cases escapedP l <;> rfl
    · obtain ⟨c, l, rfl, _⟩ := head34 (by decide) h1
      refine PR.ok fun α K E => ?_
      simp only [L127al0, T127al0, f125 k x _ h, box_same, cond_true, ine_ieq, h1, Bool.not_true, cond_false, at_step h hb, bytes_back, List.drop_succ_cons, List.drop_zero]
/-- a text, its marks and all -/
def textP (S : LB) : Option (LB × LB) := (takeP 34 S).bind fun m => textN (m.length + 1) [] m
theorem textP_some {S : LB} {o : LB × LB} (h : textP S = some o) : o.2 <:+ S ∧ o.2.length < S.length := by
  unfold textP at h
  cases ht : takeP 34 S with
  | none => rw [ht] at h; cases h
  | some m =>
    rw [ht, Option.bind_some] at h
    obtain ⟨a, rfl, _⟩ := take_some ht
    obtain ⟨b, c⟩ := textN_some h
    exact ⟨b.trans (List.suffix_cons a m), by simp; omega⟩
theorem f127 (k : Nat) (x S : LB) (hb : x.length ≤ 100000000) (hk : x.length + 10 ≤ k) (h : S <:+ x) : PR (fun α K E => f127a k x (at_ x S) (fun t q => K (t, q)) E) ((textP S).map fun r => (r.1, at_ x r.2)) := by
  have h3 := (f154 k 34 x S hb h).bind (G := fun q α K E => L127al0 k (fun t q => K (t, q)) E x k [] q) (g := fun _ => (textP S).map fun r => (r.1, at_ x r.2)) fun q hq => by
    unfold textP
    cases ht : takeP 34 S with
    | none => rw [ht] at hq; cases hq
    | some m =>
      rw [ht] at hq; cases hq
      obtain ⟨a, rfl, _⟩ := take_some ht
      have := h.length_le
      simp at this
      exact text_runP k x hb (by omega) (m.length + 1) k [] m (by omega) (by omega) (suf_cons h) (by simp; omega)
  refine h3.congr (fun α K E => ?_) ?_
  · simp only [f127a, T127a]
  · unfold textP
    cases takeP 34 S <;> rfl
end Go.AI

/-
  PLAIN LAWS: the parser's numbers.
-/
set_option maxRecDepth 100000
set_option linter.unusedVariables false
set_option linter.unusedSimpArgs false
namespace Go.AI
open Go.Proofs

/-- is it a digit? -/
def digB (y : Int) : Bool := bif ige y 48 then ile y 57 else false
/-- behind the last digit: so many were read, the first was a zero, the sum -/
def numEnd (minus : Bool) (n : Nat) (zero : Bool) (v : Int) (S : LB) : Option (Int × LB) :=
  bif (bif Nat.beq n 0 then true else (bif (bif Nat.blt 1 n then zero else false) then true else (bif minus then ieq v 0 else false))) then none
  else (bif (bif minus then ile v 9223372036854775808 else false) then some (wcv .i64 (wneg .u64 v), S) else (bif ilt v 9223372036854775808 then some (wcv .i64 v, S) else none))
def numN (minus : Bool) (zero : Bool) : Nat → Nat → Int → LB → Option (Int × LB)
  | 0, _, _, _ => none
  | f + 1, n, v, S => bif digB (headP S) then (bif igt v 1152921504606846976 then none else numN minus zero f (n + 1) (wadd .u64 (wmul .u64 10 v) (wcv .u64 (wsub .u8 (headP S) 48))) (S.drop 1)) else numEnd minus n zero v S
theorem dig_cons {S : LB} (h : digB (headP S) = true) : ∃ c l, S = c :: l := by
  cases S with
  | nil => cases h
  | cons c l => exact ⟨c, l, rfl⟩
/-- the first digit, from where the number begins -/
def zeroP (B : LB) : Bool := ieq (headP B) 48
theorem num_end (k : Nat) (x B S : LB) (hb : x.length ≤ 100000000) (hB : B <:+ x) (hS : S <:+ x) (n : Nat) (hn : B.length = n + S.length) (minus : Bool) (v : Int) (f : Nat) (hd : digB (headP S) = false) :
    PR (fun α K E => L129al0 k (fun a q => K (a, q)) E x minus (at_ x B) (f + 1) v (at_ x S)) ((numEnd minus n (zeroP B) v S).map fun r => (r.1, at_ x r.2)) := by
  have hl := hB.length_le
  have en : wsub .i64 (at_ x S) (at_ x B) = (n : Int) := by rw [wsub_in (by unfold at_; omega) (by unfold at_; omega)]; unfold at_; omega
  have e13 : ∀ (α : Type) (K : Int × Int → Option α) (E : Int → LB → Int → Option α) (t : Bool), L129aj13 k (fun a q => K (a, q)) E x v (at_ x S) minus t =
      (bif t then E 300 x (at_ x S) else (bif (bif minus then ile v 9223372036854775808 else false) then K (wcv .i64 (wneg .u64 v), at_ x S) else (bif ilt v 9223372036854775808 then K (wcv .i64 v, at_ x S) else E 300 x (at_ x S)))) := fun α K E t => by
    simp only [L129aj13, T129aj13, L129aj14, T129aj14, f78a, T78a]
    cases t
    · cases minus
      · rfl
      · cases ile v 9223372036854775808 <;> rfl
    · rfl
  have step : ∀ (α : Type) (K : Int × Int → Option α) (E : Int → LB → Int → Option α), L129al0 k (fun a q => K (a, q)) E x minus (at_ x B) (f + 1) v (at_ x S) =
      L129aj13 k (fun a q => K (a, q)) E x v (at_ x S) minus (bif Nat.beq n 0 then true else (bif (bif Nat.blt 1 n then zeroP B else false) then true else (bif minus then ieq v 0 else false))) := fun α K E => by
    have tail : (bif (ieq (n : Int) 0) then (L129aj13 k (fun a q => K (a, q)) E x v (at_ x S) minus true) else (bif (igt (n : Int) 1) then (bif (ile 0 (at_ x B)) then (bif (ilt (at_ x B) (slen x)) then (bif (ieq (sat x (at_ x B)) 48) then (L129aj13 k (fun a q => K (a, q)) E x v (at_ x S) minus true) else (bif minus then (L129aj13 k (fun a q => K (a, q)) E x v (at_ x S) minus (ieq v 0)) else (L129aj13 k (fun a q => K (a, q)) E x v (at_ x S) minus false))) else none) else none) else (bif minus then (L129aj13 k (fun a q => K (a, q)) E x v (at_ x S) minus (ieq v 0)) else (L129aj13 k (fun a q => K (a, q)) E x v (at_ x S) minus false))))
        = L129aj13 k (fun a q => K (a, q)) E x v (at_ x S) minus (bif Nat.beq n 0 then true else (bif (bif Nat.blt 1 n then zeroP B else false) then true else (bif minus then ieq v 0 else false))) := by
      rcases Nat.lt_trichotomy n 1 with h | h | h
      · obtain rfl : n = 0 := by omega
        rfl
      · subst h
        cases minus <;> rfl
      · have a1 : ieq (n : Int) 0 = false := by simp [ieq]; omega
        have a2 : igt (n : Int) 1 = true := by simp [igt]; omega
        have a3 : Nat.beq n 0 = false := by cases n <;> simp_all [Nat.beq]
        have a4 : Nat.blt 1 n = true := Nat.ble_eq_true_of_le h
        cases B with
        | nil => simp at hn; omega
        | cons c l =>
          obtain ⟨b1, b2, b3, b4⟩ := at_cons hB
          rw [a1, a2, a3, a4, b2, b3, b4]
          simp only [cond_true, cond_false, zeroP, headP]
          cases ieq (c.toNat : Int) 48
          · cases minus <;> rfl
          · rfl
    unfold digB at hd
    cases hg : ige (headP S) 48
    · simp only [L129al0, T129al0, f125 k x S hS, box_same, cond_true, hg, cond_false, en]
      exact tail
    · rw [hg, cond_true] at hd
      simp only [L129al0, T129al0, f125 k x S hS, box_same, cond_true, hg, hd, cond_false, en]
      exact tail
  unfold numEnd
  cases hc : (bif Nat.beq n 0 then true else (bif (bif Nat.blt 1 n then zeroP B else false) then true else (bif minus then ieq v 0 else false)))
  · rw [hc] at step
    cases h1 : (bif minus then ile v 9223372036854775808 else false)
    · cases h2 : ilt v 9223372036854775808
      · exact PR.bad 300 x (at_ x S) (by decide) fun α K E => by rw [step, e13, h1, h2]; rfl
      · exact PR.ok fun α K E => by rw [step, e13, h1, h2]; rfl
    · exact PR.ok fun α K E => by rw [step, e13, h1]; rfl
  · rw [hc] at step
    exact PR.bad 300 x (at_ x S) (by decide) fun α K E => by rw [step, e13]; rfl
theorem num_run (k : Nat) (x B : LB) (hb : x.length ≤ 100000000) (hB : B <:+ x) (minus : Bool) : ∀ (f g n : Nat) (v : Int) (S : LB), S <:+ x → B.length = n + S.length → S.length < f → f ≤ g →
    PR (fun α K E => L129al0 k (fun a q => K (a, q)) E x minus (at_ x B) g v (at_ x S)) ((numN minus (zeroP B) f n v S).map fun r => (r.1, at_ x r.2)) := by
  intro f
  induction f with
  | zero => intro g n v S _ _ h; omega
  | succ f ih =>
    intro g n v S hS hn hf hg
    obtain ⟨g, rfl⟩ : ∃ m, g = m + 1 := ⟨g - 1, by omega⟩
    unfold numN
    cases hd : digB (headP S)
    · simp only [cond_false]
      exact num_end k x B S hb hB hS n hn minus v g hd
    · simp only [cond_true]
      obtain ⟨c, l, rfl⟩ := dig_cons hd
      have h1 : ige (headP (c :: l)) 48 = true := by
        unfold digB at hd; cases h : ige (headP (c :: l)) 48
        · rw [h] at hd; cases hd
        · rfl
      have h2 : ile (headP (c :: l)) 57 = true := by unfold digB at hd; rw [h1] at hd; exact hd
      cases hv : igt v 1152921504606846976
      · simp only [cond_false, List.drop_succ_cons, List.drop_zero]
        refine (ih g (n + 1) _ l (suf_cons hS) (by simp at hn; omega) (by simp at hf; omega) (by omega)).congr (fun α K E => ?_) rfl
        simp only [L129al0, T129al0, f125 k x _ hS, box_same, cond_true, h1, h2, hv, cond_false, L129aj8, T129aj8, at_step hS hb]
      · refine PR.bad 300 x (at_ x (c :: l)) (by decide) fun α K E => ?_
        simp only [L129al0, T129al0, f125 k x _ hS, box_same, cond_true, h1, h2, hv, f78a, T78a]
def numberP (S : LB) : Option (Int × LB) := bif ieq (headP S) 45 then numN true (zeroP (S.drop 1)) ((S.drop 1).length + 1) 0 0 (S.drop 1) else numN false (zeroP S) (S.length + 1) 0 0 S
theorem f129 (k : Nat) (x S : LB) (hb : x.length ≤ 100000000) (hk : x.length + 10 ≤ k) (h : S <:+ x) : PR (fun α K E => f129a k x (at_ x S) (fun a q => K (a, q)) E) ((numberP S).map fun r => (r.1, at_ x r.2)) := by
  have hl := h.length_le
  unfold numberP
  cases hm : ieq (headP S) 45
  · refine (num_run k x S hb h false (S.length + 1) k 0 0 S h (by omega) (by omega) (by omega)).congr (fun α K E => ?_) rfl
    simp only [f129a, T129a, f125 k x S h, box_same, cond_true, hm, cond_false, L129aj2, T129aj2]
  · obtain ⟨c, l, rfl, _⟩ := head34 (by decide) hm
    simp only [cond_true, List.drop_succ_cons, List.drop_zero]
    simp at hl
    refine (num_run k x l hb (suf_cons h) true (l.length + 1) k 0 0 l (suf_cons h) (by omega) (by omega) (by omega)).congr (fun α K E => ?_) rfl
    simp only [f129a, T129a, f125 k x _ h, box_same, cond_true, hm, L129aj2, T129aj2, at_step h hb]
theorem numEnd_some {minus : Bool} {n : Nat} {z : Bool} {v : Int} {S : LB} {o : Int × LB} (h : numEnd minus n z v S = some o) : intOK o.1 = true ∧ o.2 = S ∧ n ≠ 0 := by
  unfold numEnd at h
  cases hc : (bif Nat.beq n 0 then true else (bif (bif Nat.blt 1 n then z else false) then true else (bif minus then ieq v 0 else false)))
  · rw [hc, cond_false] at h
    have hn : n ≠ 0 := by intro e; subst e; cases hc
    cases h1 : (bif minus then ile v 9223372036854775808 else false)
    · cases h2 : ilt v 9223372036854775808
      · rw [h1, h2] at h; cases h
      · rw [h1, h2] at h; cases h; exact ⟨wrap_ok _, rfl, hn⟩
    · rw [h1] at h; cases h; exact ⟨wrap_ok _, rfl, hn⟩
  · rw [hc] at h; cases h
theorem numN_some {minus z : Bool} : ∀ {f n : Nat} {v : Int} {S : LB} {o : Int × LB}, numN minus z f n v S = some o → intOK o.1 = true ∧ o.2 <:+ S ∧ (n = 0 → o.2.length < S.length)
  | 0, _, _, _, _, h => by cases h
  | f + 1, n, v, S, o, h => by
    unfold numN at h
    cases hd : digB (headP S)
    · rw [hd, cond_false] at h
      obtain ⟨a, b, c⟩ := numEnd_some h
      exact ⟨a, b ▸ List.suffix_refl _, fun e => absurd e c⟩
    · obtain ⟨c, l, rfl⟩ := dig_cons hd
      rw [hd, cond_true] at h
      cases hv : igt v 1152921504606846976
      · rw [hv, cond_false] at h
        simp only [List.drop_succ_cons, List.drop_zero] at h
        obtain ⟨a, b, _⟩ := numN_some h
        exact ⟨a, b.trans (List.suffix_cons c l), fun _ => by have := b.length_le; simp; omega⟩
      · rw [hv] at h; cases h
theorem numberP_some {S : LB} {o : Int × LB} (h : numberP S = some o) : intOK o.1 = true ∧ o.2 <:+ S ∧ o.2.length < S.length := by
  unfold numberP at h
  cases hm : ieq (headP S) 45
  · rw [hm] at h
    obtain ⟨a, b, c⟩ := numN_some h
    exact ⟨a, b, c rfl⟩
  · obtain ⟨c, l, rfl, _⟩ := head34 (by decide) hm
    rw [hm] at h
    simp only [cond_true, List.drop_succ_cons, List.drop_zero] at h
    obtain ⟨a, b, c'⟩ := numN_some h
    exact ⟨a, b.trans (List.suffix_cons c l), by have := c' rfl; simp; omega⟩
end Go.AI

/-
  PLAIN LAWS: the parser, whole.
-/
set_option maxRecDepth 100000
set_option linter.unusedVariables false
set_option linter.unusedSimpArgs false
namespace Go.AI
open Go.Proofs

def sL (j : J) : LR := toR (lget (row j) 4 .unk)
def sKs (j : J) : LR := toR (lget (row j) 5 .unk)
abbrev C8 := Int × Bool × Int × LB × LR × LR × LB × Int
abbrev C6 := Int × Bool × LR × LR × LB × Int
abbrev cu8 {α : Type} (K : C8 → Option α) : Int → Bool → Int → LB → LR → LR → LB → Int → Option α := fun a b c d e f g h => K (a, b, c, d, e, f, g, h)
abbrev cu6 {α : Type} (K : C6 → Option α) : Int → Bool → LR → LR → LB → Int → Option α := fun a b c d e f => K (a, b, c, d, e, f)
def cmp (x : LB) (r : J × LB) : C8 := (sK r.1, sB r.1, sN r.1, sS r.1, sL r.1, sKs r.1, x, at_ x r.2)
theorem row_cmp (j : J) : [AV.i .i64 (sK j), .b (sB j), .i .i64 (sN j), .s (sS j), .lst 83 (sL j) .view, .lst 9 (sKs j) .view] = row j := by
  cases j <;> simp only [sK, sB, sN, sS, sL, sKs, row, lget, toI, toB, toS, toR]
theorem mapHas_yes (x : LB) : ∀ (l : List LB), x ∈ l → mapHas (l.map keyPair) (.s x) = true ∧ mapFind (l.map keyPair) (.s x) .unk = .b true
  | [], h => by simp at h
  | a :: l, h => by
    simp only [List.map_cons, keyPair, mapHas, mapFind, keyEq]
    cases h1 : (a == x)
    · have : x ∈ l := by
        rcases List.mem_cons.1 h with rfl | h
        · simp at h1
        · exact h
      obtain ⟨a1, a2⟩ := mapHas_yes x l this
      simp only [Bool.false_or, cond_false]
      exact ⟨a1, a2⟩
    · simp
theorem seen_key (ks : List LB) (a : Bool) (b c d : Int) (x : LB) : toB (lget (h128b_12 (ks.map keyPair) a b c d x) 0 .unk) = ks.contains x := by
  have e0 : h128b_11 (ks.map keyPair) a b c d x = mapHas (ks.map keyPair) (.s x) := rfl
  have e1 : h128b_12 (ks.map keyPair) a b c d x = AV.cells (cond (h128b_11 (ks.map keyPair) a b c d x) (mapFind (ks.map keyPair) (.s x) .unk) (plain (.b false))) := rfl
  rw [e1, e0]
  by_cases h : x ∈ ks
  · obtain ⟨h1, h2⟩ := mapHas_yes x ks h
    rw [h1, h2, cond_true]
    have : ks.contains x = true := by simpa using h
    rw [this]; rfl
  · rw [mapHas_no x ks h, cond_false]
    have : ks.contains x = false := by simpa using h
    rw [this]; rfl

/-- behind an opening mark: the members -/
def keyP (isObj : Bool) (ks : List LB) (S : LB) : Option (List LB × LB) :=
  bif isObj then (textP S).bind fun t => bif ks.contains t.1 then none else (takeP 58 (whiteP t.2)).map fun m => (ks ++ [t.1], whiteP m) else some (ks, S)
def sepP (first : Bool) (S : LB) : Option LB := bif first then some S else (takeP 44 S).map whiteP
def loopP (v : LB → Option (J × LB)) (isObj : Bool) : Nat → Bool → List LB → List J → LB → Option ((List LB × List J) × LB)
  | 0, _, _, _, _ => none
  | n + 1, first, ks, js, S => bif ieq (headP S) (bif isObj then 125 else 93) then some ((ks, js), S.drop 1)
    else (sepP first S).bind fun S1 => (keyP isObj ks S1).bind fun q => (v q.2).bind fun r => loopP v isObj n false q.1 (js ++ [r.1]) (whiteP r.2)
def mkJ (isObj : Bool) (p : List LB × List J) : J := bif isObj then .obj p.1 p.2 else .list p.2
def innerP' (v : LB → Option (J × LB)) (isObj : Bool) (S : LB) : Option (J × LB) := (loopP v isObj (S.length + 1) true [] [] (whiteP (S.drop 1))).map fun r => (mkJ isObj r.1, r.2)
def scalarP (S : LB) (inner : Bool → Option (J × LB)) : Option (J × LB) :=
  bif ieq (headP S) 110 then (wordP [110, 117, 108, 108] S).map fun m => (.null, m)
  else (bif ieq (headP S) 116 then (wordP [116, 114, 117, 101] S).map fun m => (.bool true, m)
  else (bif ieq (headP S) 102 then (wordP [102, 97, 108, 115, 101] S).map fun m => (.bool false, m)
  else (bif ieq (headP S) 34 then (textP S).map fun t => (.text t.1, t.2)
  else (bif ieq (headP S) 91 then inner false else (bif ieq (headP S) 123 then inner true else (numberP S).map fun t => (.int t.1, t.2))))))
def valueP : Nat → LB → Option (J × LB)
  | 0, S => scalarP S fun _ => none
  | d + 1, S => scalarP S fun b => innerP' (valueP d) b S

/-! ### they move on -/
theorem sepP_some {first : Bool} {S m : LB} (h : sepP first S = some m) : m <:+ S := by
  unfold sepP at h
  cases first
  · rw [cond_false] at h
    cases ht : takeP 44 S with
    | none => rw [ht] at h; cases h
    | some l =>
      rw [ht] at h; cases h
      obtain ⟨a, rfl, _⟩ := take_some ht
      exact (List.dropWhile_suffix _).trans (List.suffix_cons a l)
  · cases h; exact List.suffix_refl _
theorem keyP_some {isObj : Bool} {ks : List LB} {S : LB} {q : List LB × LB} (h : keyP isObj ks S = some q) : q.2 <:+ S := by
  unfold keyP at h
  cases isObj
  · cases h; exact List.suffix_refl _
  · rw [cond_true] at h
    cases ht : textP S with
    | none => rw [ht] at h; cases h
    | some t =>
      rw [ht, Option.bind_some] at h
      cases hc : ks.contains t.1
      · rw [hc, cond_false] at h
        cases h2 : takeP 58 (whiteP t.2) with
        | none => rw [h2] at h; cases h
        | some m =>
          rw [h2] at h; cases h
          obtain ⟨a, e, _⟩ := take_some h2
          have : m <:+ whiteP t.2 := by rw [e]; exact List.suffix_cons a m
          exact ((List.dropWhile_suffix _).trans this).trans ((List.dropWhile_suffix _).trans (textP_some ht).1)
      · rw [hc] at h; cases h
theorem loopP_some {v : LB → Option (J × LB)} {isObj : Bool} (hv : ∀ S r, v S = some r → r.2 <:+ S ∧ r.2.length < S.length) : ∀ {n : Nat} {first : Bool} {ks : List LB} {js : List J} {S : LB} {r : (List LB × List J) × LB}, loopP v isObj n first ks js S = some r → r.2 <:+ S
  | 0, _, _, _, _, _, h => by cases h
  | n + 1, first, ks, js, S, r, h => by
    unfold loopP at h
    cases he : ieq (headP S) (bif isObj then 125 else 93)
    · rw [he, cond_false] at h
      cases h1 : sepP first S with
      | none => rw [h1] at h; cases h
      | some S1 =>
        rw [h1, Option.bind_some] at h
        cases h2 : keyP isObj ks S1 with
        | none => rw [h2] at h; cases h
        | some q =>
          rw [h2, Option.bind_some] at h
          cases h3 : v q.2 with
          | none => rw [h3] at h; cases h
          | some p =>
            rw [h3, Option.bind_some] at h
            exact ((loopP_some hv h).trans (List.dropWhile_suffix _)).trans ((hv _ _ h3).1.trans ((keyP_some h2).trans (sepP_some h1)))
    · rw [he] at h; cases h; exact List.drop_suffix 1 S
theorem scalarP_some {S : LB} {inner : Bool → Option (J × LB)} (hi : ∀ b r, S ≠ [] → inner b = some r → r.2 <:+ S ∧ r.2.length < S.length) {r : J × LB} (h : scalarP S inner = some r) : r.2 <:+ S ∧ r.2.length < S.length := by
  have word : ∀ {w : LB} {m : LB} {a : UInt8} {w' : LB}, w = a :: w' → wordP w S = some m → m <:+ S ∧ m.length < S.length := by
    clear h hi
    intro w m a w' e hm
    subst e
    unfold wordP at hm
    cases ht : takeP (a.toNat : Int) S with
    | none => rw [ht] at hm; cases hm
    | some l =>
      rw [ht, Option.bind_some] at hm
      obtain ⟨b, rfl, _⟩ := take_some ht
      have := word_suf hm
      exact ⟨this.trans (List.suffix_cons b l), by have := this.length_le; simp; omega⟩
  have mapw : ∀ {w : LB} {j : J} {a : UInt8} {w' : LB}, w = a :: w' → (wordP w S).map (fun m => (j, m)) = some r → r.2 <:+ S ∧ r.2.length < S.length := fun e h => by
    cases hw : wordP _ S with
    | none => rw [hw] at h; cases h
    | some m => rw [hw] at h; cases h; exact word e hw
  unfold scalarP at h
  cases h1 : ieq (headP S) 110
  · cases h2 : ieq (headP S) 116
    · cases h3 : ieq (headP S) 102
      · cases h4 : ieq (headP S) 34
        · cases h5 : ieq (headP S) 91
          · cases h6 : ieq (headP S) 123
            · rw [h1, h2, h3, h4, h5, h6] at h
              simp only [cond_false] at h
              cases hn : numberP S with
              | none => rw [hn] at h; cases h
              | some t => rw [hn] at h; cases h; exact (numberP_some hn).2
            · rw [h1, h2, h3, h4, h5, h6] at h
              obtain ⟨c, l, rfl, _⟩ := head34 (by decide) h6
              exact hi _ _ (by simp) h
          · rw [h1, h2, h3, h4, h5] at h
            obtain ⟨c, l, rfl, _⟩ := head34 (by decide) h5
            exact hi _ _ (by simp) h
        · rw [h1, h2, h3, h4] at h
          simp only [cond_false, cond_true] at h
          cases hn : textP S with
          | none => rw [hn] at h; cases h
          | some t => rw [hn] at h; cases h; exact textP_some hn
      · rw [h1, h2, h3] at h; exact mapw rfl h
    · rw [h1, h2] at h; exact mapw rfl h
  · rw [h1] at h; exact mapw rfl h
theorem innerP_some {v : LB → Option (J × LB)} (hv : ∀ S r, v S = some r → r.2 <:+ S ∧ r.2.length < S.length) {b : Bool} {S : LB} (hS : S ≠ []) {r : J × LB} (h : innerP' v b S = some r) : r.2 <:+ S ∧ r.2.length < S.length := by
  unfold innerP' at h
  cases hl : loopP v b (S.length + 1) true [] [] (whiteP (S.drop 1)) with
  | none => rw [hl] at h; cases h
  | some q =>
    rw [hl] at h; cases h
    have h1 := (loopP_some hv hl).trans (List.dropWhile_suffix (l := S.drop 1) isW)
    cases S with
    | nil => exact absurd rfl hS
    | cons c l =>
      simp only [List.drop_succ_cons, List.drop_zero] at h1
      exact ⟨h1.trans (List.suffix_cons c l), by have := h1.length_le; simp; omega⟩
theorem valueP_some : ∀ (d : Nat) (S : LB) (r : J × LB), valueP d S = some r → r.2 <:+ S ∧ r.2.length < S.length
  | 0, S, r, h => scalarP_some (fun _ _ _ h => by cases h) h
  | d + 1, S, r, h => scalarP_some (fun b r hS h => innerP_some (valueP_some d) hS h) h
end Go.AI

/-
  PLAIN LAWS: the parser's functions come to the plain parser.
-/
set_option maxRecDepth 100000
set_option linter.unusedVariables false
set_option linter.unusedSimpArgs false
namespace Go.AI
open Go.Proofs

abbrev VQ := (α : Type) → Int → LB → Int → (Int → Bool → Int → LB → LR → LR → LB → Int → Option α) → (Int → LB → Int → Option α) → Option α
def kd (isObj : Bool) : Int := bif isObj then 5 else 4
def ed (isObj : Bool) : Int := bif isObj then 125 else 93
theorem kd_obj (b : Bool) : ieq (kd b) 5 = b := by cases b <;> rfl
def outL (x : LB) (isObj : Bool) (r : (List LB × List J) × LB) : C6 := (kd isObj, false, rowsJ r.1.2, r.1.1.map keyRow, x, at_ x r.2)
noncomputable abbrev lp (k : Nat) (q : VQ) (isObj : Bool) (x1 : Int) (f : Nat) (α : Type) (K : C6 → Option α) (E : Int → LB → Int → Option α) : Bool → LB → Int → LR → LR → List (AV × AV) → Option α :=
  fun b x' p L Ks M => L128bl0b k (q α) (cu6 K) E false (ed isObj) (kd isObj) false x1 f b x' p L Ks M
theorem map_bind' {α β γ : Type} (o : Option α) (g : α → Option β) (h : β → γ) : (o.bind g).map h = o.bind fun a => (g a).map h := by cases o <;> rfl
theorem bind_map' {α β γ : Type} (o : Option α) (g : α → β) (h : β → Option γ) : (o.map g).bind h = o.bind fun a => h (g a) := by cases o <;> rfl
theorem j17_run (k : Nat) (x : LB) (hb : x.length ≤ 100000000) (hk : x.length < k) (q : VQ) (v : LB → Option (J × LB)) (x1 : Int) (isObj : Bool)
    (hq : ∀ S, S <:+ x → PR (fun α K E => q α x1 x (at_ x S) (cu8 K) E) ((v S).map (cmp x))) (hv : ∀ S r, v S = some r → r.2 <:+ S ∧ r.2.length < S.length)
    (n f : Nat) (first : Bool) (ks : List LB) (js : List J) (S : LB) (hS : S <:+ x) (hj : js.length + S.length ≤ 200000000)
    (ih : ∀ (j : J) (T : LB), T <:+ S → T.length < S.length → PR (fun α K E => lp k q isObj x1 f α K E false x (at_ x T) (rowsJ (js ++ [j])) (ks.map keyRow) (ks.map keyPair)) ((loopP v isObj n false ks (js ++ [j]) T).map (outL x isObj))) :
    PR (fun α K E => L128bj17b k (q α) (lp k q isObj x1 f α K E) (cu6 K) E (rowsJ js) first x false (ed isObj) (kd isObj) false x1 (at_ x S) (ks.map keyRow) (ks.map keyPair))
      (((v S).bind fun r => loopP v isObj n false ks (js ++ [r.1]) (whiteP r.2)).map (outL x isObj)) := by
  have h1 := (hq S hS).bind (G := fun c α K E => bif room ((rowsJ js).length + 1) 88 then f76a k c.2.2.2.2.2.2.1 c.2.2.2.2.2.2.2 (fun y17 => lp k q isObj x1 f α K E false c.2.2.2.2.2.2.1 y17 (radd (rowsJ js) [[.i .i64 c.1, .b c.2.1, .i .i64 c.2.2.1, .s c.2.2.2.1, .lst 83 c.2.2.2.2.1 .view, .lst 9 c.2.2.2.2.2.1 .view]]) (ks.map keyRow) (ks.map keyPair)) else none)
    (g := fun _ => ((v S).bind fun r => loopP v isObj n false ks (js ++ [r.1]) (whiteP r.2)).map (outL x isObj)) fun c hc => by
      cases hvs : v S with
      | none => rw [hvs] at hc; cases hc
      | some r =>
        rw [hvs] at hc
        simp only [Option.map_some, Option.some.injEq] at hc
        subst hc
        obtain ⟨v1, v2⟩ := hv S r hvs
        simp only [Option.bind_some]
        have e1 : room ((rowsJ js).length + 1) 88 = true := room_in (by rw [rowsJ_len]; omega)
        have e2 : radd (rowsJ js) [row r.1] = rowsJ (js ++ [r.1]) := by simp [rowsJ_map, radd]
        refine (ih r.1 (whiteP r.2) ((List.dropWhile_suffix _).trans v1) (by have := white_len r.2; omega)).congr (fun α K E => ?_) rfl
        rw [e1, cond_true]
        show f76a k x (at_ x r.2) _ = _
        rw [f76 k x r.2 hb hk (v1.trans hS)]
        show lp k q isObj x1 f α K E false x (at_ x (whiteP r.2)) (radd (rowsJ js) [[AV.i .i64 (sK r.1), .b (sB r.1), .i .i64 (sN r.1), .s (sS r.1), .lst 83 (sL r.1) .view, .lst 9 (sKs r.1) .view]]) (ks.map keyRow) (ks.map keyPair) = _
        rw [row_cmp, e2]
  refine h1.congr (fun α K E => ?_) ?_
  · simp only [L128bj17b, T128bj17b]
  · cases v S <;> rfl
theorem j14_run (k : Nat) (x : LB) (hb : x.length ≤ 100000000) (hk : x.length + 10 ≤ k) (q : VQ) (v : LB → Option (J × LB)) (x1 : Int) (isObj : Bool)
    (hq : ∀ S, S <:+ x → PR (fun α K E => q α x1 x (at_ x S) (cu8 K) E) ((v S).map (cmp x))) (hv : ∀ S r, v S = some r → r.2 <:+ S ∧ r.2.length < S.length)
    (n f : Nat) (first : Bool) (ks : List LB) (js : List J) (S : LB) (hS : S <:+ x) (hj : js.length + S.length ≤ 200000000) (hks : ks.length + S.length ≤ 200000000)
    (ih : ∀ (ks' : List LB) (j : J) (T : LB), ks'.length ≤ ks.length + 1 → T <:+ S → T.length < S.length → PR (fun α K E => lp k q isObj x1 f α K E false x (at_ x T) (rowsJ (js ++ [j])) (ks'.map keyRow) (ks'.map keyPair)) ((loopP v isObj n false ks' (js ++ [j]) T).map (outL x isObj))) :
    PR (fun α K E => L128bj14b k (q α) (lp k q isObj x1 f α K E) (cu6 K) E (rowsJ js) (ks.map keyRow) (ks.map keyPair) first x false (ed isObj) (kd isObj) false x1 (at_ x S))
      (((keyP isObj ks S).bind fun p => (v p.2).bind fun r => loopP v isObj n false p.1 (js ++ [r.1]) (whiteP r.2)).map (outL x isObj)) := by
  cases isObj with
  | false =>
    refine (j17_run k x hb (by omega) q v x1 false hq hv n f first ks js S hS hj (fun j T h1 h2 => ih ks j T (by omega) h1 h2)).congr (fun α K E => ?_) rfl
    simp only [L128bj14b, T128bj14b, kd_obj, cond_false]
  | true =>
    have h1 := (f127 k x S hb hk hS).bind (G := fun t α K E => bif ks.contains t.1 then E 300 x t.2 else L128bj20b k (q α) (lp k q true x1 f α K E) (cu6 K) E (rowsJ js) (ks.map keyRow) (ks.map keyPair) first x false (ed true) (kd true) false x1 t.1 t.2)
      (g := fun _ => ((keyP true ks S).bind fun p => (v p.2).bind fun r => loopP v true n false p.1 (js ++ [r.1]) (whiteP r.2)).map (outL x true)) fun t ht => by
        unfold keyP
        simp only [cond_true]
        cases hts : textP S with
        | none => rw [hts] at ht; cases ht
        | some t' =>
          rw [hts] at ht; cases ht
          simp only [Option.bind_some]
          obtain ⟨s1, s2⟩ := textP_some hts
          cases hc : ks.contains t'.1
          · simp only [cond_false]
            have h2 : PR (fun α K E => f154a k 58 x (at_ x (whiteP t'.2)) (fun y7 => f76a k x y7 (fun y8 => L128bj17b k (q α) (lp k q true x1 f α K E) (cu6 K) E (rowsJ js) first x false (ed true) (kd true) false x1 y8 ((ks ++ [t'.1]).map keyRow) ((ks ++ [t'.1]).map keyPair))) E)
                ((((takeP 58 (whiteP t'.2)).map fun m => (ks ++ [t'.1], whiteP m)).bind fun p => (v p.2).bind fun r => loopP v true n false p.1 (js ++ [r.1]) (whiteP r.2)).map (outL x true)) := by
              have hw : whiteP t'.2 <:+ x := (List.dropWhile_suffix _).trans (s1.trans hS)
              have h3 := (f154 k 58 x (whiteP t'.2) hb hw).bind (G := fun y7 α K E => f76a k x y7 (fun y8 => L128bj17b k (q α) (lp k q true x1 f α K E) (cu6 K) E (rowsJ js) first x false (ed true) (kd true) false x1 y8 ((ks ++ [t'.1]).map keyRow) ((ks ++ [t'.1]).map keyPair)))
                (g := fun _ => (((takeP 58 (whiteP t'.2)).map fun m => (ks ++ [t'.1], whiteP m)).bind fun p => (v p.2).bind fun r => loopP v true n false p.1 (js ++ [r.1]) (whiteP r.2)).map (outL x true)) fun y7 hy => by
                  cases h4 : takeP 58 (whiteP t'.2) with
                  | none => rw [h4] at hy; cases hy
                  | some m =>
                    rw [h4] at hy; cases hy
                    obtain ⟨a, e, _⟩ := take_some h4
                    have hm : m <:+ t'.2 := (by rw [e] at *; exact List.suffix_cons a m : m <:+ whiteP t'.2).trans (List.dropWhile_suffix _)
                    have hml : (whiteP m).length ≤ S.length := by
                      have := white_len m; have := hm.length_le; omega
                    have hmS : whiteP m <:+ S := (List.dropWhile_suffix _).trans (hm.trans s1)
                    simp only [Option.map_some, Option.bind_some]
                    refine (j17_run k x hb (by omega) q v x1 true hq hv n f first (ks ++ [t'.1]) js (whiteP m) (hmS.trans hS) (by omega) (fun j T g1 g2 => ih (ks ++ [t'.1]) j T (by simp) (g1.trans hmS) (by omega))).congr (fun α K E => ?_) rfl
                    rw [f76 k x m hb (by omega) ((hm.trans s1).trans hS)]
              refine h3.congr (fun α K E => rfl) ?_
              cases takeP 58 (whiteP t'.2) <;> rfl
            refine h2.congr (fun α K E => ?_) rfl
            have e1 : room ((ks.map keyRow).length + 1) 16 = true := room_in (by simp; omega)
            have e2 : radd (ks.map keyRow) [[.s t'.1]] = (ks ++ [t'.1]).map keyRow := by simp [radd, keyRow]
            have hni : t'.1 ∉ ks := by simpa using hc
            have e3 := mapSet_no t'.1 ks hni
            simp only [L128bj20b, T128bj20b, e1, cond_true, e2]
            rw [f76 k x t'.2 hb (by omega) (s1.trans hS)]
            have e4 : ∀ y8, L128bj17b k (q α) (lp k q true x1 f α K E) (cu6 K) E (rowsJ js) first x false (ed true) (kd true) false x1 y8 ((ks ++ [t'.1]).map keyRow) (mapSet (ks.map keyPair) (.s t'.1) (.b true)) = L128bj17b k (q α) (lp k q true x1 f α K E) (cu6 K) E (rowsJ js) first x false (ed true) (kd true) false x1 y8 ((ks ++ [t'.1]).map keyRow) ((ks ++ [t'.1]).map keyPair) := fun y8 => by rw [e3]
            simp only [← e4]
            rfl
          · exact PR.bad 300 x (at_ x t'.2) (by decide) fun α K E => rfl
    refine h1.congr (fun α K E => ?_) ?_
    · simp only [L128bj14b, T128bj14b, kd_obj, cond_true, seen_key, f78a, T78a]
    · unfold keyP
      cases textP S <;> rfl

theorem loop_runP (k : Nat) (x : LB) (hb : x.length ≤ 100000000) (hk : x.length + 10 ≤ k) (q : VQ) (v : LB → Option (J × LB)) (x1 : Int) (isObj : Bool)
    (hq : ∀ S, S <:+ x → PR (fun α K E => q α x1 x (at_ x S) (cu8 K) E) ((v S).map (cmp x))) (hv : ∀ S r, v S = some r → r.2 <:+ S ∧ r.2.length < S.length) :
    ∀ (n f : Nat) (first : Bool) (ks : List LB) (js : List J) (S : LB), S <:+ x → S.length < n → n ≤ f → js.length + S.length ≤ 200000000 → ks.length + S.length ≤ 200000000 →
      PR (fun α K E => lp k q isObj x1 f α K E first x (at_ x S) (rowsJ js) (ks.map keyRow) (ks.map keyPair)) ((loopP v isObj n first ks js S).map (outL x isObj)) := by
  intro n
  induction n with
  | zero => intro f first ks js S _ h; omega
  | succ n ih =>
    intro f first ks js S hS hn hf hj hks
    obtain ⟨f, rfl⟩ : ∃ g, f = g + 1 := ⟨f - 1, by omega⟩
    have ed0 : (bif isObj then (125 : Int) else 93) = ed isObj := rfl
    have edn : ed isObj ≠ 0 := by cases isObj <;> decide
    unfold loopP
    rw [ed0]
    have body : ∀ (S1 : LB), S1 <:+ S → PR (fun α K E => L128bj14b k (q α) (lp k q isObj x1 f α K E) (cu6 K) E (rowsJ js) (ks.map keyRow) (ks.map keyPair) first x false (ed isObj) (kd isObj) false x1 (at_ x S1))
        (((keyP isObj ks S1).bind fun p => (v p.2).bind fun r => loopP v isObj n false p.1 (js ++ [r.1]) (whiteP r.2)).map (outL x isObj)) := fun S1 h1 => by
      have hl := h1.length_le
      refine j14_run k x hb hk q v x1 isObj hq hv n f first ks js S1 (h1.trans hS) (by omega) (by omega) fun ks' j T hk' hT hTl => ?_
      exact ih f false ks' (js ++ [j]) T ((hT.trans h1).trans hS) (by omega) (by omega) (by simp; omega) (by omega)
    cases he : ieq (headP S) (ed isObj)
    · simp only [cond_false]
      cases first with
      | true =>
        refine (body S (List.suffix_refl _)).congr (fun α K E => ?_) rfl
        simp only [L128bl0b, T128bl0b, f125 k x S hS, box_same, cond_true, ine_ieq, he, Bool.not_false, Bool.not_true, cond_false]
      | false =>
        have h3 := (f154 k 44 x S hb hS).bind (G := fun y2 α K E => f76a k x y2 (fun y3 => L128bj14b k (q α) (lp k q isObj x1 f α K E) (cu6 K) E (rowsJ js) (ks.map keyRow) (ks.map keyPair) false x false (ed isObj) (kd isObj) false x1 y3))
          (g := fun _ => ((sepP false S).bind fun S1 => (keyP isObj ks S1).bind fun p => (v p.2).bind fun r => loopP v isObj n false p.1 (js ++ [r.1]) (whiteP r.2)).map (outL x isObj)) fun y2 hy => by
            unfold sepP
            simp only [cond_false]
            cases ht : takeP 44 S with
            | none => rw [ht] at hy; cases hy
            | some m =>
              rw [ht] at hy; cases hy
              obtain ⟨a, e, _⟩ := take_some ht
              have hm : m <:+ S := by rw [e]; exact List.suffix_cons a m
              simp only [Option.map_some, Option.bind_some]
              refine (body (whiteP m) ((List.dropWhile_suffix _).trans hm)).congr (fun α K E => ?_) rfl
              rw [f76 k x m hb (by omega) (hm.trans hS)]
        refine h3.congr (fun α K E => ?_) ?_
        · simp only [L128bl0b, T128bl0b, f125 k x S hS, box_same, cond_true, ine_ieq, he, Bool.not_false]
        · unfold sepP
          cases takeP 44 S <;> rfl
    · simp only [cond_true]
      obtain ⟨c, l, rfl, _⟩ := head34 edn he
      refine PR.ok fun α K E => ?_
      simp only [L128bl0b, T128bl0b, f125 k x _ hS, box_same, cond_true, ine_ieq, he, Bool.not_true, cond_false, at_step hS hb]
      rfl
theorem loopP_ks {v : LB → Option (J × LB)} : ∀ {n : Nat} {first : Bool} {ks : List LB} {js : List J} {S : LB} {r : (List LB × List J) × LB}, loopP v false n first ks js S = some r → r.1.1 = ks
  | 0, _, _, _, _, _, h => by cases h
  | n + 1, first, ks, js, S, r, h => by
    unfold loopP at h
    cases he : ieq (headP S) (bif false then 125 else 93)
    · rw [he, cond_false] at h
      cases h1 : sepP first S with
      | none => rw [h1] at h; cases h
      | some S1 =>
        rw [h1, Option.bind_some] at h
        have h2 : keyP false ks S1 = some (ks, S1) := rfl
        rw [h2, Option.bind_some] at h
        cases h3 : v S1 with
        | none => rw [h3] at h; cases h
        | some p =>
          rw [h3, Option.bind_some] at h
          exact loopP_ks h
    · rw [he] at h; cases h; rfl
theorem f128 (k : Nat) (x : LB) (hb : x.length ≤ 100000000) (hk : x.length + 10 ≤ k) (q : VQ) (v : LB → Option (J × LB)) (x1 : Int) (h16 : x1 ≤ 16) (isObj : Bool) (y0 : Int) (hy : ieq y0 123 = isObj)
    (hq : ∀ S, S <:+ x → PR (fun α K E => q α x1 x (at_ x S) (cu8 K) E) ((v S).map (cmp x))) (hv : ∀ S r, v S = some r → r.2 <:+ S ∧ r.2.length < S.length) (c : UInt8) (l : LB) (h : (c :: l) <:+ x) :
    PR (fun α K E => f128b k (q α) y0 x1 x (at_ x (c :: l)) (cu6 K) E) ((loopP v isObj ((c :: l).length + 1) true [] [] (whiteP l)).map (outL x isObj)) := by
  have e16 : igt x1 16 = false := by simp only [igt]; exact decide_eq_false (by omega)
  have hl := h.length_le
  have hw := white_len l
  simp at hl
  refine (loop_runP k x hb hk q v x1 isObj hq hv ((c :: l).length + 1) k true [] [] (whiteP l) ((List.dropWhile_suffix _).trans (suf_cons h)) (by simp; omega) (by simp; omega) (by simp; omega) (by simp; omega)).congr (fun α K E => ?_) rfl
  simp only [f128b, T128b, e16, cond_false, L128bj1, T128bj1, hy]
  cases isObj <;> (simp only [cond_true, cond_false, L128bj4, T128bj4, at_step h hb]; rw [f76 k x l hb (by omega) (suf_cons h)]; rfl)
theorem f77 (k : Nat) (x : LB) (hb : x.length ≤ 100000000) (hk : x.length + 10 ≤ k) : ∀ (d n : Nat) (x0 : Int) (S : LB), d < n → x0 + d = 16 → 0 ≤ x0 → S <:+ x →
    PR (fun α K E => fr77a k n x0 x (at_ x S) (cu8 K) E) ((valueP d S).map (cmp x)) := by
  intro d
  have main : ∀ (n : Nat) (x0 : Int) (S : LB) (inner : Bool → Option (J × LB)), S <:+ x → 0 ≤ x0 → x0 ≤ 16 →
      (∀ (isObj : Bool) (c : UInt8) (l : LB), S = c :: l → ieq (headP S) 123 = isObj → PR (fun α K E => f128b k (fr77a k n) (headP S) (wadd .i64 x0 1) x (at_ x S) (fun y1 y2 y3 y4 y5 y6 => K (y1, y2, (0 : Int), ([] : LB), y3, y4, y5, y6)) E) ((inner isObj).map (cmp x))) →
      PR (fun α K E => fr77a k (n + 1) x0 x (at_ x S) (cu8 K) E) ((scalarP S inner).map (cmp x)) := by
    intro n x0 S inner hS h0 h1 hi
    have word : ∀ (w : LB) (j : J), w.length ≤ 5 → PR (fun α K E => f126a k w x (at_ x S) (fun y1 => K (sK j, sB j, sN j, sS j, sL j, sKs j, x, y1)) (fun y2 y3 y4 => E y2 y3 y4)) (((wordP w S).map fun m => (j, m)).map (cmp x)) := fun w j hw => by
      have h3 := (f126 k w x S hb (by omega) (by omega) hS).bind (G := fun y1 α K E => K (sK j, sB j, sN j, sS j, sL j, sKs j, x, y1)) (g := fun y1 => some (sK j, sB j, sN j, sS j, sL j, sKs j, x, y1)) fun y1 _ => PR.ok fun α K E => rfl
      refine h3.congr (fun α K E => rfl) ?_
      cases wordP w S <;> rfl
    have step : ∀ (α : Type) (K : C8 → Option α) (E : Int → LB → Int → Option α), fr77a k (n + 1) x0 x (at_ x S) (cu8 K) E = T77a (f125a k) (f126a k) (f127a k) (fun x0 x1 x2 y0 t14_2 t14_6 => (L77aj14 k (fr77a k n) (cu8 K) E x0 x1 x2 y0) t14_2 t14_6) (cu8 K) E x0 x (at_ x S) := fun α K E => rfl
    unfold scalarP
    cases c1 : ieq (headP S) 110
    · cases c2 : ieq (headP S) 116
      · cases c3 : ieq (headP S) 102
        · cases c4 : ieq (headP S) 34
          · cases c5 : ieq (headP S) 91
            · cases c6 : ieq (headP S) 123
              · simp only [cond_false]
                have h3 := (f129 k x S hb hk hS).bind (G := fun t α K E => K ((2 : Int), false, t.1, ([] : LB), ([] : LR), ([] : LR), x, t.2)) (g := fun t => some ((2 : Int), false, t.1, ([] : LB), ([] : LR), ([] : LR), x, t.2)) fun t _ => PR.ok fun α K E => rfl
                refine h3.congr (fun α K E => ?_) ?_
                · rw [step]; simp only [T77a, f125 k x S hS, box_same, cond_true, c1, c2, c3, c4, c5, c6, cond_false, L77aj14, T77aj14]
                · cases numberP S <;> rfl
              · simp only [cond_false, cond_true]
                obtain ⟨c, l, e, _⟩ := head34 (by decide) c6
                refine (hi true c l e c6).congr (fun α K E => ?_) rfl
                rw [step]; simp only [T77a, f125 k x S hS, box_same, cond_true, c1, c2, c3, c4, c5, c6, cond_false, L77aj14, T77aj14]
            · simp only [cond_false, cond_true]
              obtain ⟨c, l, e, ec⟩ := head34 (by decide) c5
              refine (hi false c l e (by rw [e]; simp [headP, ieq, ec])).congr (fun α K E => ?_) rfl
              rw [step]; simp only [T77a, f125 k x S hS, box_same, cond_true, c1, c2, c3, c4, c5, cond_false, L77aj14, T77aj14]
          · simp only [cond_false, cond_true]
            have h3 := (f127 k x S hb hk hS).bind (G := fun t α K E => K ((3 : Int), false, (0 : Int), t.1, ([] : LR), ([] : LR), x, t.2)) (g := fun t => some ((3 : Int), false, (0 : Int), t.1, ([] : LR), ([] : LR), x, t.2)) fun t _ => PR.ok fun α K E => rfl
            refine h3.congr (fun α K E => ?_) ?_
            · rw [step]; simp only [T77a, f125 k x S hS, box_same, cond_true, c1, c2, c3, c4, cond_false]
            · cases textP S <;> rfl
        · simp only [cond_false, cond_true]
          refine (word [102, 97, 108, 115, 101] (.bool false) (by simp)).congr (fun α K E => ?_) rfl
          rw [step]; simp only [T77a, f125 k x S hS, box_same, cond_true, c1, c2, c3, cond_false]; rfl
      · simp only [cond_false, cond_true]
        refine (word [116, 114, 117, 101] (.bool true) (by simp)).congr (fun α K E => ?_) rfl
        rw [step]; simp only [T77a, f125 k x S hS, box_same, cond_true, c1, c2, cond_false]; rfl
    · simp only [cond_true]
      refine (word [110, 117, 108, 108] .null (by simp)).congr (fun α K E => ?_) rfl
      rw [step]; simp only [T77a, f125 k x S hS, box_same, cond_true, c1]; rfl
  induction d with
  | zero =>
    intro n x0 S hn hx h0 hS
    obtain ⟨n, rfl⟩ : ∃ g, n = g + 1 := ⟨n - 1, by omega⟩
    obtain rfl : x0 = 16 := by omega
    refine main n 16 S _ hS (by omega) (by omega) fun isObj c l e hc => ?_
    refine PR.bad 301 x (at_ x S) (by decide) fun α K E => ?_
    have e16 : igt (wadd .i64 16 1) 16 = true := rfl
    simp only [f128b, T128b, e16, cond_true]
  | succ d ih =>
    intro n x0 S hn hx h0 hS
    obtain ⟨n, rfl⟩ : ∃ g, n = g + 1 := ⟨n - 1, by omega⟩
    refine main n x0 S _ hS (by omega) (by omega) fun isObj c l e hc => ?_
    subst e
    have hw : wadd .i64 x0 1 = x0 + 1 := wadd_in (by omega) (by omega)
    have h3 := (f128 k x hb hk (fun α => fr77a k n) (valueP d) (x0 + 1) (by omega) isObj (headP (c :: l)) hc (fun T hT => ih n (x0 + 1) T (by omega) (by omega) (by omega) hT) (valueP_some d) c l hS).bind
      (G := fun r α K E => K (r.1, r.2.1, (0 : Int), ([] : LB), r.2.2.1, r.2.2.2.1, r.2.2.2.2.1, r.2.2.2.2.2)) (g := fun r => some (r.1, r.2.1, (0 : Int), ([] : LB), r.2.2.1, r.2.2.2.1, r.2.2.2.2.1, r.2.2.2.2.2)) fun r _ => PR.ok fun α K E => rfl
    refine h3.congr (fun α K E => ?_) ?_
    · rw [hw]
    · unfold innerP'
      simp only [List.drop_succ_cons, List.drop_zero]
      cases hlp : loopP (valueP d) isObj ((c :: l).length + 1) true [] [] (whiteP l) with
      | none => rfl
      | some r =>
        cases isObj
        · have := loopP_ks hlp
          simp only [Option.map_some, Option.bind_some, cmp, outL, mkJ, cond_false, kd, this, sK, sB, sN, sS, sL, sKs, row, lget, toI, toB, toS, toR, List.map_nil]
        · simp only [Option.map_some, Option.bind_some, cmp, outL, mkJ, cond_true, kd, sK, sB, sN, sS, sL, sKs, row, lget, toI, toB, toS, toR]
/-- a whole text -/
def parseP (x : LB) : Option J := bif Nat.ble x.length 65536 then (valueP 16 (whiteP x)).bind fun r => bif ieq (at_ x (whiteP r.2)) (slen x) then some r.1 else none else none
theorem f45 {α : Type} (k : Nat) (x : LB) (hk : x.length + 100 ≤ k) (hk2 : x.length ≤ 100000000000) (K : Int → Bool → Int → LB → LR → LR → Int → Option α) :
    (∃ j, parseP x = some j ∧ f45a k x K = K (sK j) (sB j) (sN j) (sS j) (sL j) (sKs j) 0) ∨ (parseP x = none ∧ ∃ (a : Int) (b : Bool) (c : Int) (s : LB) (L Ks : LR) (e : Int), e ≠ 0 ∧ f45a k x K = K a b c s L Ks e) := by
  unfold f45a T45a parseP
  by_cases hl : x.length ≤ 65536
  · have e1 : igt (slen x) 65536 = false := by simp only [igt, slen]; exact decide_eq_false (by omega)
    rw [e1, Nat.ble_eq_true_of_le hl]
    simp only [cond_false, cond_true]
    have h0 : at_ x x = 0 := by unfold at_; omega
    have e76 := fun K => f76 (α := α) k x x (by omega) (by omega) (List.suffix_refl _) K
    rw [h0] at e76
    rw [e76]
    have hw : whiteP x <:+ x := List.dropWhile_suffix _
    rcases f77 k x (by omega) (by omega) 16 k 0 (whiteP x) (by omega) (by omega) (by omega) hw with ⟨b, hb, h⟩ | ⟨hb, e, x', i', he, h⟩
    · cases hv : valueP 16 (whiteP x) with
      | none => rw [hv] at hb; cases hb
      | some r =>
        rw [hv] at hb
        simp only [Option.map_some, Option.some.injEq] at hb
        subst hb
        have hr : r.2 <:+ x := (valueP_some 16 _ _ hv).1.trans hw
        have h' := h α (fun c => f76a k c.2.2.2.2.2.2.1 c.2.2.2.2.2.2.2 (fun y9 => (bif (ine y9 (slen x)) then (f78a k none (fun y10 => (bif (ine y10 (0 : Int)) then (K (0 : Int) false (0 : Int) ([] : LB) [] [] y10) else (K c.1 c.2.1 c.2.2.1 c.2.2.2.1 c.2.2.2.2.1 c.2.2.2.2.2.1 y10)))) else (K c.1 c.2.1 c.2.2.1 c.2.2.2.1 c.2.2.2.2.1 c.2.2.2.2.2.1 (0 : Int)))))
          (fun y9 y10 y11 => (bif (ine y9 (0 : Int)) then (K (0 : Int) false (0 : Int) ([] : LB) [] [] y9) else (K (0 : Int) false (0 : Int) ([] : LB) [] [] y9)))
        have h2 := f76 (α := α) k x r.2 (by omega) (by omega) hr (fun y9 => (bif (ine y9 (slen x)) then (f78a k none (fun y10 => (bif (ine y10 (0 : Int)) then (K (0 : Int) false (0 : Int) ([] : LB) [] [] y10) else (K (sK r.1) (sB r.1) (sN r.1) (sS r.1) (sL r.1) (sKs r.1) y10)))) else (K (sK r.1) (sB r.1) (sN r.1) (sS r.1) (sL r.1) (sKs r.1) (0 : Int))))
        have h3 := h'.trans h2
        simp only [Option.bind_some]
        cases hc : ieq (at_ x (whiteP r.2)) (slen x)
        · refine .inr ⟨rfl, 0, false, 0, [], [], [], 300, by decide, ?_⟩
          refine (show _ = _ from h3).trans ?_
          rw [ine_ieq, hc]; rfl
        · refine .inl ⟨r.1, rfl, ?_⟩
          refine (show _ = _ from h3).trans ?_
          rw [ine_ieq, hc]; rfl
    · cases hv : valueP 16 (whiteP x) with
      | some r => rw [hv] at hb; cases hb
      | none =>
        refine .inr ⟨rfl, 0, false, 0, [], [], [], e, he, ?_⟩
        have h' := h α (fun c => f76a k c.2.2.2.2.2.2.1 c.2.2.2.2.2.2.2 (fun y9 => (bif (ine y9 (slen x)) then (f78a k none (fun y10 => (bif (ine y10 (0 : Int)) then (K (0 : Int) false (0 : Int) ([] : LB) [] [] y10) else (K c.1 c.2.1 c.2.2.1 c.2.2.2.1 c.2.2.2.2.1 c.2.2.2.2.2.1 y10)))) else (K c.1 c.2.1 c.2.2.1 c.2.2.2.1 c.2.2.2.2.1 c.2.2.2.2.2.1 (0 : Int)))))
          (fun y9 y10 y11 => (bif (ine y9 (0 : Int)) then (K (0 : Int) false (0 : Int) ([] : LB) [] [] y9) else (K (0 : Int) false (0 : Int) ([] : LB) [] [] y9)))
        refine (show _ = _ from h').trans ?_
        cases ine e 0 <;> rfl
  · have e1 : igt (slen x) 65536 = true := by simp only [igt, slen]; exact decide_eq_true (by omega)
    have e2 : Nat.ble x.length 65536 = false := by
      cases hh : Nat.ble x.length 65536
      · rfl
      · exact absurd (Nat.le_of_ble_eq_true hh) hl
    rw [e1, e2]
    exact .inr ⟨rfl, 0, false, 0, [], [], [], 302, by decide, rfl⟩
end Go.AI

/-
  PLAIN LAWS: the reader of actions.
-/
set_option maxRecDepth 100000
set_option linter.unusedVariables false
set_option linter.unusedSimpArgs false
namespace Go.AI
open Go.Proofs

mutual
def okJ (N : Nat) : J → Prop
  | .null => True
  | .bool _ => True
  | .int n => intOK n = true
  | .text _ => True
  | .list l => l.length ≤ N ∧ okL N l
  | .obj ks l => l.length ≤ N ∧ ks.length = l.length ∧ okL N l
def okL (N : Nat) : List J → Prop
  | [] => True
  | j :: l => okJ N j ∧ okL N l
end
theorem okL_mem {N : Nat} : ∀ {l : List J}, okL N l → ∀ j ∈ l, okJ N j
  | [], _, j, hj => by simp at hj
  | a :: l, h, j, hj => by
    unfold okL at h
    rcases List.mem_cons.1 hj with rfl | hj
    · exact h.1
    · exact okL_mem h.2 j hj
theorem okL_of {N : Nat} : ∀ {l : List J}, (∀ j ∈ l, okJ N j) → okL N l
  | [], _ => by simp [okL]
  | a :: l, h => by unfold okL; exact ⟨h a (by simp), okL_of fun j hj => h j (by simp [hj])⟩
def subK : J → List LB
  | .obj ks _ => ks
  | _ => []
def subL : J → List J
  | .obj _ l => l
  | .list l => l
  | _ => []
theorem sL_sub (j : J) : sL j = rowsJ (subL j) := by cases j <;> simp only [sL, row, lget, toR, subL, rowsJ]
theorem sKs_sub (j : J) : sKs j = (subK j).map keyRow := by cases j <;> simp only [sKs, row, lget, toR, subK, List.map_nil]
theorem ok_sub {N : Nat} {j : J} (h : okJ N j) : (subL j).length ≤ N ∧ (subK j).length ≤ (subL j).length ∧ ∀ c ∈ subL j, okJ N c := by
  cases j <;> simp only [subK, subL, List.length_nil, List.not_mem_nil, false_implies, implies_true, and_true, Nat.zero_le, Nat.le_refl]
  · unfold okJ at h; exact ⟨h.1, trivial, fun c hc => okL_mem h.2 c hc⟩
  · unfold okJ at h; exact ⟨h.1, by omega, okL_mem h.2.2⟩
theorem sN_ok {N : Nat} {j : J} (h : okJ N j) : intOK (sN j) = true := by
  cases j <;> simp only [sN, row, lget, toI] <;> first | rfl | (unfold okJ at h; exact h)
def findJ : List LB → List J → LB → Option J
  | k :: ks, j :: js, key => bif seq k key then some j else findJ ks js key
  | _, _, _ => none
def rdAt (j : J) (key : LB) (b : Bool) : J × Bool := match findJ (subK j) (subL j) key with
  | some c => (c, b)
  | none => (.null, true)
theorem findJ_ok {N : Nat} : ∀ {ks : List LB} {l : List J} {key : LB} {c : J}, (∀ x ∈ l, okJ N x) → findJ ks l key = some c → okJ N c
  | [], _, _, _, _, h => by simp [findJ] at h
  | _ :: _, [], _, _, _, h => by simp [findJ] at h
  | k :: ks, j :: js, key, c, ho, h => by
    unfold findJ at h
    cases hs : seq k key
    · rw [hs] at h; exact findJ_ok (fun x hx => ho x (by simp [hx])) h
    · rw [hs] at h; cases h; exact ho _ (by simp)
theorem rdAt_ok {N : Nat} {j : J} (h : okJ N j) (key : LB) (b : Bool) : okJ N (rdAt j key b).1 := by
  unfold rdAt
  cases hf : findJ (subK j) (subL j) key with
  | none => exact trivial
  | some c => exact findJ_ok (ok_sub h).2.2 hf
theorem at_run {α : Type} (k : Nat) (j0 : J) (x0 : Int) (x1 : Bool) (x2 : Int) (x3 : LB) (key : LB) (b : Bool) (K : Int → Bool → Int → LB → LR → LR → Bool → Option α) : ∀ (ks : List LB) (l : List J) (f : Nat) (kp : List LB) (lp : List J), kp.length = lp.length → ks.length ≤ l.length → ks.length < f → (kp ++ ks).length ≤ 1000000000 →
    L132al0 k K x0 x1 x2 x3 (rowsJ (lp ++ l)) ((kp ++ ks).map keyRow) key b f (kp.length : Int) = (match findJ ks l key with
      | some c => K (sK c) (sB c) (sN c) (sS c) (sL c) (sKs c) b
      | none => K 0 false 0 [] [] [] true) := by
  intro ks
  induction ks with
  | nil =>
    intro l f kp lp h1 h2 h3 h4
    obtain ⟨f, rfl⟩ : ∃ g, f = g + 1 := ⟨f - 1, by omega⟩
    have : ilt (kp.length : Int) (rlen ((kp ++ []).map keyRow)) = false := by simp [ilt, rlen]
    simp only [L132al0, T132al0, this, cond_false, findJ]
  | cons x ks ih =>
    intro l f kp lp h1 h2 h3 h4
    obtain ⟨f, rfl⟩ : ∃ g, f = g + 1 := ⟨f - 1, by omega⟩
    cases l with
    | nil => simp at h2
    | cons c l =>
      have hl : (kp ++ x :: ks).length = kp.length + (ks.length + 1) := by simp
      have e1 : ilt (kp.length : Int) (rlen ((kp ++ x :: ks).map keyRow)) = true := by simp [ilt, rlen]; omega
      have e2 : ilt (kp.length : Int) (rlen (rowsJ (lp ++ c :: l))) = true := by rw [h1]; exact rowsJ_lt lp c l
      have e3 : rget (rowsJ (lp ++ c :: l)) (kp.length : Int) = row c := by rw [h1]; exact rowsJ_get lp c l
      have e4 := keyRow_get kp x ks
      simp only [L132al0, T132al0, e1, e2, e3, e4, ile_pre, cond_true, wadd_pre kp x (by omega), findJ]
      cases hs : seq x key
      · simp only [cond_false]
        rw [app_snoc kp x ks, app_snoc lp c l]
        exact ih l f (kp ++ [x]) (lp ++ [c]) (by simp [h1]) (by simpa using h2) (by simpa using h3) (by rw [← app_snoc]; exact h4)
      · rfl
theorem f132 {α : Type} (k N : Nat) (hk : N < k) (hN : N ≤ 100000000) (j : J) (h : okJ N j) (key : LB) (b : Bool) (K : Int → Bool → Int → LB → LR → LR → Bool → Option α) :
    f132a k (sK j) (sB j) (sN j) (sS j) (sL j) (sKs j) key b K = K (sK (rdAt j key b).1) (sB (rdAt j key b).1) (sN (rdAt j key b).1) (sS (rdAt j key b).1) (sL (rdAt j key b).1) (sKs (rdAt j key b).1) (rdAt j key b).2 := by
  obtain ⟨h1, h2, _⟩ := ok_sub h
  unfold f132a T132a
  rw [sL_sub, sKs_sub]
  have := at_run k j (sK j) (sB j) (sN j) (sS j) key b K (subK j) (subL j) k [] [] rfl h2 (by omega) (by simp; omega)
  simp only [List.nil_append, List.length_nil] at this
  refine this.trans ?_
  unfold rdAt
  cases findJ (subK j) (subL j) key <;> rfl
def rdKind (j : J) (n : Int) (b : Bool) : Bool := bif b then true else ine (sK j) n
theorem f80 {α : Type} (k : Nat) (j : J) (n : Int) (b : Bool) (K : Bool → Option α) : f80a k (sK j) (sB j) (sN j) (sS j) (sL j) (sKs j) n b K = K (rdKind j n b) := by
  unfold f80a T80a rdKind; cases b <;> rfl
def rdText (j : J) (key : LB) (b : Bool) : LB × Bool := (sS (rdAt j key b).1, rdKind (rdAt j key b).1 3 (rdAt j key b).2)
def rdNum (j : J) (key : LB) (b : Bool) : Int × Bool := (sN (rdAt j key b).1, rdKind (rdAt j key b).1 2 (rdAt j key b).2)
def rdList (j : J) (key : LB) (b : Bool) : List J × Bool := (subL (rdAt j key b).1, rdKind (rdAt j key b).1 4 (rdAt j key b).2)
theorem f81 {α : Type} (k N : Nat) (hk : N < k) (hN : N ≤ 100000000) (j : J) (h : okJ N j) (key : LB) (b : Bool) (K : LB → Bool → Option α) : f81a k (sK j) (sB j) (sN j) (sS j) (sL j) (sKs j) key b K = K (rdText j key b).1 (rdText j key b).2 := by
  unfold f81a T81a
  rw [f132 k N hk hN j h, f80]; rfl
theorem f82 {α : Type} (k N : Nat) (hk : N < k) (hN : N ≤ 100000000) (j : J) (h : okJ N j) (key : LB) (b : Bool) (K : Int → Bool → Option α) : f82a k (sK j) (sB j) (sN j) (sS j) (sL j) (sKs j) key b K = K (rdNum j key b).1 (rdNum j key b).2 := by
  unfold f82a T82a
  rw [f132 k N hk hN j h, f80]; rfl
theorem f130 {α : Type} (k N : Nat) (hk : N < k) (hN : N ≤ 100000000) (j : J) (h : okJ N j) (key : LB) (b : Bool) (K : LR → Bool → Option α) : f130a k (sK j) (sB j) (sN j) (sS j) (sL j) (sKs j) key b K = K (rowsJ (rdList j key b).1) (rdList j key b).2 := by
  unfold f130a T130a
  rw [f132 k N hk hN j h, f80, sL_sub]; rfl
theorem rdList_ok {N : Nat} {j : J} (h : okJ N j) (key : LB) (b : Bool) : (rdList j key b).1.length ≤ N ∧ ∀ c ∈ (rdList j key b).1, okJ N c := by
  have := ok_sub (rdAt_ok h key b)
  exact ⟨this.1, this.2.2⟩
theorem rdNum_ok {N : Nat} {j : J} (h : okJ N j) (key : LB) (b : Bool) : intOK (rdNum j key b).1 = true := sN_ok (rdAt_ok h key b)
/-- a value: kind, number, truth, text, bad? -/
def rdVal (j : J) (b : Bool) : Int × Int × Bool × LB × Bool := match j with
  | .null => (0, 0, false, [], b)
  | .bool x => (2, 0, x, [], b)
  | .int n => (1, n, false, [], b)
  | .text s => (3, 0, false, s, b)
  | _ => (0, 0, false, [], true)
theorem f131 {α : Type} (k : Nat) (j : J) (b : Bool) (K : Int → Int → Bool → LB → Bool → Option α) : f131a k (sK j) (sB j) (sN j) (sS j) (sL j) (sKs j) b K = K (rdVal j b).1 (rdVal j b).2.1 (rdVal j b).2.2.1 (rdVal j b).2.2.2.1 (rdVal j b).2.2.2.2 := by
  cases j <;> rfl
theorem rdVal_ok {N : Nat} {j : J} (h : okJ N j) (b : Bool) : intOK (rdVal j b).2.1 = true := by
  cases j <;> first | rfl | (unfold okJ at h; exact h)

/-! ### lists -/
def valOut (j : J) (b : Bool) : List AV × Bool := ([.i .i64 (rdVal j b).1, .i .i64 (rdVal j b).2.1, .b (rdVal j b).2.2.1, .s (rdVal j b).2.2.2.1], (rdVal j b).2.2.2.2)
def colOut (j : J) (b : Bool) : List AV × Bool :=
  let p := rdNum j [105, 100] b; let q := rdText j [110, 97, 109, 101] p.2; let r := rdNum j [107, 105, 110, 100] q.2
  ([.i .i64 p.1, .s q.1, .i .i64 r.1], r.2)
def fieldOut (j : J) (b : Bool) : List AV × Bool :=
  let p := rdNum j [115, 111, 117, 114, 99, 101] b; let q := rdNum j [116, 114, 97, 110, 115] p.2; let r := rdNum j [112, 97, 114, 97, 109] q.2
  ([.i .i64 p.1, .i .i64 q.1, .i .i64 r.1], r.2)
def statOut (j : J) (b : Bool) : List AV × Bool :=
  let p := rdNum j [99, 111, 108] b; let q := rdNum j [110, 117, 108, 108, 115] p.2; let r := rdAt j [109, 105, 110] q.2; let s := rdVal r.1 r.2; let t := rdAt j [109, 97, 120] s.2.2.2.2; let u := rdVal t.1 t.2
  ([.i .i64 p.1, .i .i64 q.1, .i .i64 s.1, .i .i64 s.2.1, .b s.2.2.1, .s s.2.2.2.1, .i .i64 u.1, .i .i64 u.2.1, .b u.2.2.1, .s u.2.2.2.1], u.2.2.2.2)
def foldO (g : J → Bool → List AV × Bool) : List J → Bool → LR × Bool
  | [], b => ([], b)
  | j :: l, b => ((g j b).1 :: (foldO g l (g j b).2).1, (foldO g l (g j b).2).2)
theorem foldO_len (g : J → Bool → List AV × Bool) : ∀ (l : List J) (b : Bool), (foldO g l b).1.length = l.length
  | [], b => rfl
  | j :: l, b => by simp [foldO, foldO_len g l]
theorem run83 {α : Type} (k N : Nat) (hk : N < k) (hN : N ≤ 100000000) (x0 : Int) (x1 : Bool) (x2 : Int) (x3 : LB) (x4 x5 : LR) (y0 y2 : Int) (K : Int → LR → Int → Bool → Option α) : ∀ (l : List J) (f : Nat) (pre : List J) (b : Bool) (acc : LR), (∀ c ∈ l, okJ N c) → l.length < f → (pre ++ l).length ≤ N → acc.length = pre.length →
    L83al0 k K x0 x1 x2 x3 x4 x5 y0 y2 (rowsJ (pre ++ l)) f (pre.length : Int) b acc = K y0 (acc ++ (foldO colOut l b).1) y2 (foldO colOut l b).2 := by
  intro l
  induction l with
  | nil =>
    intro f pre b acc ho hf hb ha
    obtain ⟨f, rfl⟩ : ∃ g, f = g + 1 := ⟨f - 1, by omega⟩
    have : ilt (pre.length : Int) (rlen (rowsJ (pre ++ []))) = false := by simp [ilt, rlen, rowsJ_len]
    simp only [L83al0, T83al0, this, cond_false, foldO]
    simp only [List.append_nil]
  | cons c l ih =>
    intro f pre b acc ho hf hb ha
    obtain ⟨f, rfl⟩ : ∃ g, f = g + 1 := ⟨f - 1, by omega⟩
    have hl : (pre ++ c :: l).length = pre.length + (l.length + 1) := by simp
    have e1 := rowsJ_lt pre c l
    have e2 := rowsJ_get pre c l
    have e3 : room (acc.length + 1) 32 = true := room_in (by omega)
    have hc := ho c (by simp)
    have st : L83al0 k K x0 x1 x2 x3 x4 x5 y0 y2 (rowsJ (pre ++ c :: l)) (f + 1) (pre.length : Int) b acc = L83al0 k K x0 x1 x2 x3 x4 x5 y0 y2 (rowsJ (pre ++ c :: l)) f ((pre ++ [c]).length : Int) (colOut c b).2 (acc ++ [(colOut c b).1]) := by
      simp only [L83al0, T83al0, e1, e2, ile_pre, cond_true, wadd_pre pre c (by omega)]
      refine (f82 k N hk hN c hc [105, 100] b _).trans ?_
      refine (f81 k N hk hN c hc [110, 97, 109, 101] _ _).trans ?_
      refine (f82 k N hk hN c hc [107, 105, 110, 100] _ _).trans ?_
      rw [e3]; rfl
    rw [st]
    have := ih f (pre ++ [c]) (colOut c b).2 (acc ++ [(colOut c b).1]) (fun d hd => ho d (by simp [hd])) (by simpa using hf) (by rw [← app_snoc]; exact hb) (by simp [ha])
    rw [← app_snoc] at this
    rw [this]
    simp [foldO]
theorem run84 {α : Type} (k N : Nat) (hk : N < k) (hN : N ≤ 100000000) (x0 : Int) (x1 : Bool) (x2 : Int) (x3 : LB) (x4 x5 : LR) (y0 : Int) (K : Int → LR → Bool → Option α) : ∀ (l : List J) (f : Nat) (pre : List J) (b : Bool) (acc : LR), (∀ c ∈ l, okJ N c) → l.length < f → (pre ++ l).length ≤ N → acc.length = pre.length →
    L84al0 k K x0 x1 x2 x3 x4 x5 y0 (rowsJ (pre ++ l)) f (pre.length : Int) b acc = K y0 (acc ++ (foldO fieldOut l b).1) (foldO fieldOut l b).2 := by
  intro l
  induction l with
  | nil =>
    intro f pre b acc ho hf hb ha
    obtain ⟨f, rfl⟩ : ∃ g, f = g + 1 := ⟨f - 1, by omega⟩
    have : ilt (pre.length : Int) (rlen (rowsJ (pre ++ []))) = false := by simp [ilt, rlen, rowsJ_len]
    simp only [L84al0, T84al0, this, cond_false, foldO]
    simp only [List.append_nil]
  | cons c l ih =>
    intro f pre b acc ho hf hb ha
    obtain ⟨f, rfl⟩ : ∃ g, f = g + 1 := ⟨f - 1, by omega⟩
    have hl : (pre ++ c :: l).length = pre.length + (l.length + 1) := by simp
    have e1 := rowsJ_lt pre c l
    have e2 := rowsJ_get pre c l
    have e3 : room (acc.length + 1) 24 = true := room_in (by omega)
    have hc := ho c (by simp)
    have st : L84al0 k K x0 x1 x2 x3 x4 x5 y0 (rowsJ (pre ++ c :: l)) (f + 1) (pre.length : Int) b acc = L84al0 k K x0 x1 x2 x3 x4 x5 y0 (rowsJ (pre ++ c :: l)) f ((pre ++ [c]).length : Int) (fieldOut c b).2 (acc ++ [(fieldOut c b).1]) := by
      simp only [L84al0, T84al0, e1, e2, ile_pre, cond_true, wadd_pre pre c (by omega)]
      refine (f82 k N hk hN c hc [115, 111, 117, 114, 99, 101] b _).trans ?_
      refine (f82 k N hk hN c hc [116, 114, 97, 110, 115] _ _).trans ?_
      refine (f82 k N hk hN c hc [112, 97, 114, 97, 109] _ _).trans ?_
      rw [e3]; rfl
    rw [st]
    have := ih f (pre ++ [c]) (fieldOut c b).2 (acc ++ [(fieldOut c b).1]) (fun d hd => ho d (by simp [hd])) (by simpa using hf) (by rw [← app_snoc]; exact hb) (by simp [ha])
    rw [← app_snoc] at this
    rw [this]
    simp [foldO]
theorem run79 {α : Type} (k N : Nat) (hk : N < k) (hN : N ≤ 100000000) (s18 : LR) (x0 : Int) (x1 : Bool) (x2 : Int) (x3 : LB) (x4 x5 : LR) (y0 : LB) (y2 y4 : Int) (K : LB → Int → Int → LR → LR → Bool → Option α) : ∀ (l : List J) (f : Nat) (pre : List J) (b : Bool) (acc : LR), (∀ c ∈ l, okJ N c) → l.length < f → (pre ++ l).length ≤ N → acc.length = pre.length →
    L79al1 k K s18 x0 x1 x2 x3 x4 x5 y0 y2 y4 (rowsJ (pre ++ l)) f (pre.length : Int) b acc = K y0 y2 y4 s18 (acc ++ (foldO statOut l b).1) (foldO statOut l b).2 := by
  intro l
  induction l with
  | nil =>
    intro f pre b acc ho hf hb ha
    obtain ⟨f, rfl⟩ : ∃ g, f = g + 1 := ⟨f - 1, by omega⟩
    have : ilt (pre.length : Int) (rlen (rowsJ (pre ++ []))) = false := by simp [ilt, rlen, rowsJ_len]
    simp only [L79al1, T79al1, this, cond_false, foldO]
    simp only [List.append_nil]
  | cons c l ih =>
    intro f pre b acc ho hf hb ha
    obtain ⟨f, rfl⟩ : ∃ g, f = g + 1 := ⟨f - 1, by omega⟩
    have hl : (pre ++ c :: l).length = pre.length + (l.length + 1) := by simp
    have e1 := rowsJ_lt pre c l
    have e2 := rowsJ_get pre c l
    have e3 : room (acc.length + 1) 96 = true := room_in (by omega)
    have hc := ho c (by simp)
    have st : L79al1 k K s18 x0 x1 x2 x3 x4 x5 y0 y2 y4 (rowsJ (pre ++ c :: l)) (f + 1) (pre.length : Int) b acc = L79al1 k K s18 x0 x1 x2 x3 x4 x5 y0 y2 y4 (rowsJ (pre ++ c :: l)) f ((pre ++ [c]).length : Int) (statOut c b).2 (acc ++ [(statOut c b).1]) := by
      simp only [L79al1, T79al1, e1, e2, ile_pre, cond_true, wadd_pre pre c (by omega)]
      refine (f82 k N hk hN c hc [99, 111, 108] b _).trans ?_
      refine (f82 k N hk hN c hc [110, 117, 108, 108, 115] _ _).trans ?_
      refine (f132 k N hk hN c hc [109, 105, 110] _ _).trans ?_
      refine (f131 k _ _ _).trans ?_
      refine (f132 k N hk hN c hc [109, 97, 120] _ _).trans ?_
      refine (f131 k _ _ _).trans ?_
      rw [e3]; rfl
    rw [st]
    have := ih f (pre ++ [c]) (statOut c b).2 (acc ++ [(statOut c b).1]) (fun d hd => ho d (by simp [hd])) (by simpa using hf) (by rw [← app_snoc]; exact hb) (by simp [ha])
    rw [← app_snoc] at this
    rw [this]
    simp [foldO]
theorem run79p {α : Type} (k N : Nat) (hk : N < k) (hN : N ≤ 100000000) (j : J) (hj : okJ N j) (y0 : LB) (y2 y4 : Int) (K : LB → Int → Int → LR → LR → Bool → Option α) : ∀ (l : List J) (f : Nat) (pre : List J) (b : Bool) (acc : LR), (∀ c ∈ l, okJ N c) → l.length < f → (pre ++ l).length ≤ N → acc.length = pre.length →
    L79al0 k K (sK j) (sB j) (sN j) (sS j) (sL j) (sKs j) y0 y2 y4 (rowsJ (pre ++ l)) f (pre.length : Int) b acc =
      K y0 y2 y4 (acc ++ (foldO valOut l b).1) (foldO statOut (rdList j [115, 116, 97, 116, 115] (foldO valOut l b).2).1 (rdList j [115, 116, 97, 116, 115] (foldO valOut l b).2).2).1 (foldO statOut (rdList j [115, 116, 97, 116, 115] (foldO valOut l b).2).1 (rdList j [115, 116, 97, 116, 115] (foldO valOut l b).2).2).2 := by
  intro l
  induction l with
  | nil =>
    intro f pre b acc ho hf hb ha
    obtain ⟨f, rfl⟩ : ∃ g, f = g + 1 := ⟨f - 1, by omega⟩
    have : ilt (pre.length : Int) (rlen (rowsJ (pre ++ []))) = false := by simp [ilt, rlen, rowsJ_len]
    simp only [L79al0, T79al0, this, cond_false, foldO]
    simp only [List.append_nil]
    refine (f130 k N hk hN j hj [115, 116, 97, 116, 115] b _).trans ?_
    obtain ⟨o1, o2⟩ := rdList_ok hj [115, 116, 97, 116, 115] b
    have := run79 k N hk hN acc (sK j) (sB j) (sN j) (sS j) (sL j) (sKs j) y0 y2 y4 K (rdList j [115, 116, 97, 116, 115] b).1 k [] (rdList j [115, 116, 97, 116, 115] b).2 [] o2 (by omega) (by simpa using o1) rfl
    simpa using this
  | cons c l ih =>
    intro f pre b acc ho hf hb ha
    obtain ⟨f, rfl⟩ : ∃ g, f = g + 1 := ⟨f - 1, by omega⟩
    have hl : (pre ++ c :: l).length = pre.length + (l.length + 1) := by simp
    have e1 := rowsJ_lt pre c l
    have e2 := rowsJ_get pre c l
    have e3 : room (acc.length + 1) 40 = true := room_in (by omega)
    have st : L79al0 k K (sK j) (sB j) (sN j) (sS j) (sL j) (sKs j) y0 y2 y4 (rowsJ (pre ++ c :: l)) (f + 1) (pre.length : Int) b acc = L79al0 k K (sK j) (sB j) (sN j) (sS j) (sL j) (sKs j) y0 y2 y4 (rowsJ (pre ++ c :: l)) f ((pre ++ [c]).length : Int) (valOut c b).2 (acc ++ [(valOut c b).1]) := by
      simp only [L79al0, T79al0, e1, e2, ile_pre, cond_true, wadd_pre pre c (by omega)]
      refine (f131 k c b _).trans ?_
      rw [e3]; rfl
    rw [st]
    have := ih f (pre ++ [c]) (valOut c b).2 (acc ++ [(valOut c b).1]) (fun d hd => ho d (by simp [hd])) (by simpa using hf) (by rw [← app_snoc]; exact hb) (by simp [ha])
    rw [← app_snoc] at this
    rw [this]
    simp [foldO]
end Go.AI

/-
  PLAIN LAWS: the reader of actions, whole.
-/
set_option maxRecDepth 100000
set_option linter.unusedVariables false
set_option linter.unusedSimpArgs false
namespace Go.AI
open Go.Proofs

def mkRow (x0 : Int) (x1 : LB) (x2 : Int) (x3 : Int) (x4 : LR) (x5 : LR) (x6 : LB) (x7 : LB) (x8 : LB) (x9 : Int) (x10 : Int) (x11 : LR) (x12 : Int) (x13 : Int) (x14 : LR) (x15 : LB) (x16 : Int) (x17 : Int) (x18 : Int) (x19 : Int) : List AV := [.i .i64 x0, .s x1, .i .i64 x2, .i .i64 x3, .lst 61 x4 .view, .lst 63 x5 .view, .s x6, .s x7, .s x8, .i .i64 x9, .i .i64 x10, .lst 97 x11 .view, .i .i64 x12, .i .i64 x13, .lst 59 x14 .view, .s x15, .i .i64 x16, .i .i64 x17, .i .i64 x18, .i .i64 x19]
def addOut (c : J) (b : Bool) : List AV × Bool :=
  let p := rdText c [112, 97, 116, 104] b; let q := rdNum c [114, 111, 119, 115] p.2; let r := rdNum c [115, 112, 101, 99] q.2; let s := rdList c [112, 97, 114, 116] r.2
  let t := foldO valOut s.1 s.2; let u := rdList c [115, 116, 97, 116, 115] t.2; let v := foldO statOut u.1 u.2
  (mkRow 0 (p.1) (q.1) (r.1) (t.1) (v.1) [] [] [] 0 0 [] 0 0 [] [] 0 0 0 0, v.2)
def schemaOut (c : J) (b : Bool) : List AV × Bool :=
  let p := rdNum c [105, 100] b; let q := rdNum c [110, 101, 120, 116] p.2; let r := rdList c [99, 111, 108, 117, 109, 110, 115] q.2; let s := foldO colOut r.1 r.2
  (mkRow (3) [] 0 0 [] [] [] [] [] 0 (p.1) (s.1) (q.1) 0 [] [] 0 0 0 0, s.2)
def specOut (c : J) (b : Bool) : List AV × Bool :=
  let p := rdNum c [105, 100] b; let r := rdList c [102, 105, 101, 108, 100, 115] p.2; let s := foldO fieldOut r.1 r.2
  (mkRow (4) [] 0 0 [] [] [] [] [] 0 0 [] 0 (p.1) (s.1) [] 0 0 0 0, s.2)
def markOut (c : J) (b : Bool) : List AV × Bool :=
  let p := rdText c [112, 97, 116, 104] b; let q := rdText c [102, 105, 108, 101] p.2; let r := rdNum c [114, 111, 119, 115] q.2
  (mkRow (2) [] 0 0 [] [] [] (p.1) (q.1) (r.1) 0 [] 0 0 [] [] 0 0 0 0, r.2)
def infoOut (c : J) (b : Bool) : List AV × Bool :=
  let p := rdNum c [99, 108, 105, 101, 110, 116] b; let q := rdNum c [115, 101, 113] p.2; let r := rdNum c [111, 112] q.2; let s := rdNum c [116, 105, 109, 101] r.2
  (mkRow (6) [] 0 0 [] [] [] [] [] 0 0 [] 0 0 [] [] (p.1) (q.1) (r.1) (s.1), s.2)
def rowIn (ky : LB) (c : J) (b : Bool) : List AV × Bool :=
  bif seq ky [97, 100, 100] then addOut c b
  else bif seq ky [114, 101, 109, 111, 118, 101] then (mkRow (1) [] 0 0 [] [] (sS c) [] [] 0 0 [] 0 0 [] [] 0 0 0 0, rdKind c 3 b)
  else bif seq ky [109, 97, 114, 107] then markOut c b
  else bif seq ky [115, 99, 104, 101, 109, 97] then schemaOut c b
  else bif seq ky [115, 112, 101, 99] then specOut c b
  else bif seq ky [116, 120, 110] then (mkRow (5) [] 0 0 [] [] [] [] [] 0 0 [] 0 0 [] (sS c) 0 0 0 0, rdKind c 3 b)
  else bif seq ky [105, 110, 102, 111] then infoOut c b
  else (mkRow 0 [] 0 0 [] [] [] [] [] 0 0 [] 0 0 [] [] 0 0 0 0, true)
def rowOut (j : J) (b : Bool) : List AV × Bool := match subK j, subL j with
  | [ky], c :: _ => rowIn ky c b
  | _, _ => (mkRow 0 [] 0 0 [] [] [] [] [] 0 0 [] 0 0 [] [] 0 0 0 0, true)
theorem f79 {α : Type} (k N : Nat) (hk : N < k) (hN : N ≤ 100000000) (j : J) (h : okJ N j) (b : Bool) (K : LB → Int → Int → LR → LR → Bool → Option α) :
    f79a k (sK j) (sB j) (sN j) (sS j) (sL j) (sKs j) b K = K (toS (lget (addOut j b).1 1 .unk)) (toI (lget (addOut j b).1 2 .unk)) (toI (lget (addOut j b).1 3 .unk)) (toR (lget (addOut j b).1 4 .unk)) (toR (lget (addOut j b).1 5 .unk)) (addOut j b).2 := by
  unfold f79a T79a
  refine (f81 k N hk hN j h [112, 97, 116, 104] b _).trans ?_
  refine (f82 k N hk hN j h [114, 111, 119, 115] _ _).trans ?_
  refine (f82 k N hk hN j h [115, 112, 101, 99] _ _).trans ?_
  refine (f130 k N hk hN j h [112, 97, 114, 116] _ _).trans ?_
  obtain ⟨o1, o2⟩ := rdList_ok h [112, 97, 114, 116] (rdNum j [115, 112, 101, 99] (rdNum j [114, 111, 119, 115] (rdText j [112, 97, 116, 104] b).2).2).2
  exact run79p k N hk hN j h _ _ _ K (rdList j [112, 97, 114, 116] (rdNum j [115, 112, 101, 99] (rdNum j [114, 111, 119, 115] (rdText j [112, 97, 116, 104] b).2).2).2).1 k [] (rdList j [112, 97, 114, 116] (rdNum j [115, 112, 101, 99] (rdNum j [114, 111, 119, 115] (rdText j [112, 97, 116, 104] b).2).2).2).2 [] o2 (by omega) (by simpa using o1) rfl
theorem f83 {α : Type} (k N : Nat) (hk : N < k) (hN : N ≤ 100000000) (j : J) (h : okJ N j) (b : Bool) (K : Int → LR → Int → Bool → Option α) :
    f83a k (sK j) (sB j) (sN j) (sS j) (sL j) (sKs j) b K = K (toI (lget (schemaOut j b).1 10 .unk)) (toR (lget (schemaOut j b).1 11 .unk)) (toI (lget (schemaOut j b).1 12 .unk)) (schemaOut j b).2 := by
  unfold f83a T83a
  refine (f82 k N hk hN j h [105, 100] b _).trans ?_
  refine (f82 k N hk hN j h [110, 101, 120, 116] _ _).trans ?_
  refine (f130 k N hk hN j h [99, 111, 108, 117, 109, 110, 115] _ _).trans ?_
  obtain ⟨o1, o2⟩ := rdList_ok h [99, 111, 108, 117, 109, 110, 115] (rdNum j [110, 101, 120, 116] (rdNum j [105, 100] b).2).2
  exact run83 k N hk hN _ _ _ _ _ _ _ _ K (rdList j [99, 111, 108, 117, 109, 110, 115] (rdNum j [110, 101, 120, 116] (rdNum j [105, 100] b).2).2).1 k [] (rdList j [99, 111, 108, 117, 109, 110, 115] (rdNum j [110, 101, 120, 116] (rdNum j [105, 100] b).2).2).2 [] o2 (by omega) (by simpa using o1) rfl
theorem f84 {α : Type} (k N : Nat) (hk : N < k) (hN : N ≤ 100000000) (j : J) (h : okJ N j) (b : Bool) (K : Int → LR → Bool → Option α) :
    f84a k (sK j) (sB j) (sN j) (sS j) (sL j) (sKs j) b K = K (toI (lget (specOut j b).1 13 .unk)) (toR (lget (specOut j b).1 14 .unk)) (specOut j b).2 := by
  unfold f84a T84a
  refine (f82 k N hk hN j h [105, 100] b _).trans ?_
  refine (f130 k N hk hN j h [102, 105, 101, 108, 100, 115] _ _).trans ?_
  obtain ⟨o1, o2⟩ := rdList_ok h [102, 105, 101, 108, 100, 115] (rdNum j [105, 100] b).2
  exact run84 k N hk hN _ _ _ _ _ _ _ K (rdList j [102, 105, 101, 108, 100, 115] (rdNum j [105, 100] b).2).1 k [] (rdList j [102, 105, 101, 108, 100, 115] (rdNum j [105, 100] b).2).2 [] o2 (by omega) (by simpa using o1) rfl
def kRow {α : Type} (K : (Int → LB → Int → Int → LR → LR → LB → LB → LB → Int → Int → LR → Int → Int → LR → LB → Int → Int → Int → Int → Bool → Option α)) (p : List AV × Bool) : Option α := K (toI (lget p.1 0 .unk)) (toS (lget p.1 1 .unk)) (toI (lget p.1 2 .unk)) (toI (lget p.1 3 .unk)) (toR (lget p.1 4 .unk)) (toR (lget p.1 5 .unk)) (toS (lget p.1 6 .unk)) (toS (lget p.1 7 .unk)) (toS (lget p.1 8 .unk)) (toI (lget p.1 9 .unk)) (toI (lget p.1 10 .unk)) (toR (lget p.1 11 .unk)) (toI (lget p.1 12 .unk)) (toI (lget p.1 13 .unk)) (toR (lget p.1 14 .unk)) (toS (lget p.1 15 .unk)) (toI (lget p.1 16 .unk)) (toI (lget p.1 17 .unk)) (toI (lget p.1 18 .unk)) (toI (lget p.1 19 .unk)) p.2
theorem f46 {α : Type} (k N : Nat) (hk : N < k) (hN : N ≤ 100000000) (j : J) (h : okJ N j) (b : Bool) (K : (Int → LB → Int → Int → LR → LR → LB → LB → LB → Int → Int → LR → Int → Int → LR → LB → Int → Int → Int → Int → Bool → Option α)) :
    f46a k (sK j) (sB j) (sN j) (sS j) (sL j) (sKs j) b K = kRow K (rowOut j b) := by
  unfold f46a T46a
  rw [sL_sub, sKs_sub]
  have ho := ok_sub h
  unfold rowOut
  rcases hks : subK j with _ | ⟨ky, _ | ⟨k2, ks⟩⟩
  · have : ine (rlen (([] : List LB).map keyRow)) 1 = true := rfl
    rw [this]; rfl
  · rcases hjs : subL j with _ | ⟨c, l⟩
    · rw [hks, hjs] at ho; simp at ho
    · have hc : okJ N c := ho.2.2 c (by rw [hjs]; simp)
      have e0 : ine (rlen (([ky] : List LB).map keyRow)) 1 = false := rfl
      have e1 : ilt 0 (rlen (rowsJ (c :: l))) = true := rowsJ_lt [] c l
      have e2 : ilt 0 (rlen (([ky] : List LB).map keyRow)) = true := rfl
      have e3 : rget (rowsJ (c :: l)) 0 = row c := rowsJ_get [] c l
      have e4 : toS (lget (rget (([ky] : List LB).map keyRow) 0) 0 .unk) = ky := rfl
      rw [e0, e1, e2, e3, e4]
      simp only [cond_false, cond_true]
      show _ = kRow K (rowIn ky c b)
      unfold rowIn
      cases a1 : seq ky [97, 100, 100]
      · simp only [cond_false]
        cases a2 : seq ky [114, 101, 109, 111, 118, 101]
        · simp only [cond_false]
          cases a3 : seq ky [109, 97, 114, 107]
          · simp only [cond_false]
            cases a4 : seq ky [115, 99, 104, 101, 109, 97]
            · simp only [cond_false]
              cases a5 : seq ky [115, 112, 101, 99]
              · simp only [cond_false]
                cases a6 : seq ky [116, 120, 110]
                · simp only [cond_false]
                  cases a7 : seq ky [105, 110, 102, 111]
                  · rfl
                  · refine (f82 k N hk hN c hc [99, 108, 105, 101, 110, 116] b _).trans ?_
                    refine (f82 k N hk hN c hc [115, 101, 113] _ _).trans ?_
                    refine (f82 k N hk hN c hc [111, 112] _ _).trans ?_
                    exact f82 k N hk hN c hc [116, 105, 109, 101] _ _
                · exact f80 k c 3 b _
              · exact f84 k N hk hN c hc b _
            · exact f83 k N hk hN c hc b _
          · refine (f81 k N hk hN c hc [112, 97, 116, 104] b _).trans ?_
            refine (f81 k N hk hN c hc [102, 105, 108, 101] _ _).trans ?_
            exact f82 k N hk hN c hc [114, 111, 119, 115] _ _
        · exact f80 k c 3 b _
      · exact f79 k N hk hN c hc b _
  · have : ine (rlen ((ky :: k2 :: ks).map keyRow)) 1 = true := by simp [ine, rlen]; omega
    rw [this]; rfl
end Go.AI
