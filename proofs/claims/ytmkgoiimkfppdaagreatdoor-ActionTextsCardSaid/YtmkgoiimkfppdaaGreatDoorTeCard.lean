/- ActionTexts of boathouse/action: for all a, b, which the law's function returns true and leaves its arguments alone; no condition. The machine side: an abstract interpreter of the model's code, proved sound once, and the functions that it comes to, printed and checked; the plain side: what Put prints for any list of actions, and the seven texts word by word. -/
import Derived.Test.YtmkgoiimkfppdaaGreatDoorCards
import Derived.Test.YtmkgoiimkfppdaaGreatDoorTie
import Derived.WalkKit
import Derived.ProofKit
import Derived.OpenShut
import Derived.LaidMore
import Derived.Lay
import Derived.LaidSub
import Derived.Deep.DeepHandedRow
import Derived.Lib.LaidTab
import Derived.Test.YtmkgoiimkfppdaaGreatDoorTeF
/-
  PLAIN LAWS: what Put comes to.
-/
set_option maxRecDepth 100000
set_option linter.unusedVariables false
set_option linter.unusedSimpArgs false
namespace Go.AI
open Go.Proofs

theorem top_run (k : Nat) (x1 : Int) (x3 : Bool) (x4 : Int) (x5 : LB) (x7 : LR) (L : List J) :
    ∀ (l : List J) (f : Nat) (pre : List J) (o : LB), L = pre ++ l → l.length < f → L.length ≤ 1000000000000 → (∀ j ∈ l, okPr (fun α => f68b k) x1 j) → o.length ≤ 65536 →
      Adds (fun α K E => L112al0b k K (fun e o _ _ _ _ _ _ => E e o) 4 x3 x4 x5 (rowsJ L) x7 [93] x1 f (L.length : Int) (pre.length : Int) (byteRows o)) o (items pre.isEmpty l ++ [93]) := by
  intro l
  induction l with
  | nil =>
    intro f pre o hp hf hb hq ho
    obtain ⟨f, rfl⟩ : ∃ g, f = g + 1 := ⟨f - 1, by omega⟩
    have e : ilt (pre.length : Int) (L.length : Int) = false := by rw [hp]; simp [ilt]
    refine (adds108 k [93] o ho (by simp)).congr fun α K E => ?_
    simp only [L112al0b, T112al0b, e, cond_false]
  | cons j l ih =>
    intro f pre o hp hf hb hq ho
    obtain ⟨f, rfl⟩ : ∃ g, f = g + 1 := ⟨f - 1, by omega⟩
    have hl : L.length = pre.length + (l.length + 1) := by rw [hp]; simp
    have e : ilt (pre.length : Int) (L.length : Int) = true := by simp [ilt]; omega
    have e2 : ieq (4 : Int) 5 = false := rfl
    have e3 : ilt (pre.length : Int) (rlen (rowsJ L)) = true := by rw [hp]; exact rowsJ_lt pre j l
    have e4 : rget (rowsJ L) (pre.length : Int) = row j := by rw [hp]; exact rowsJ_get pre j l
    have ei : items pre.isEmpty (j :: l) ++ [93] = (bif pre.isEmpty then [] else [44]) ++ (render j ++ (items false l ++ [93])) := by simp [items]
    rw [ei]
    refine (sep_adds k pre.isEmpty o ho (G := fun α y K E => f68b k (row j) x1 y (fun y4 => L112al0b k K (fun e o _ _ _ _ _ _ => E e o) 4 x3 x4 x5 (rowsJ L) x7 [93] x1 f (L.length : Int) ((pre ++ [j]).length : Int) y4) E) fun o' he ho' => ?_).congr fun α K E => ?_
    · refine (hq j (by simp) o' ho').seq (G := fun α y K E => L112al0b k K (fun e o _ _ _ _ _ _ => E e o) 4 x3 x4 x5 (rowsJ L) x7 [93] x1 f (L.length : Int) ((pre ++ [j]).length : Int) y) fun h => ?_
      have := ih f (pre ++ [j]) (o' ++ render j) (by rw [hp, app_snoc]) (by simpa using hf) hb (fun y hy => hq y (by simp [hy])) h
      rw [show (pre ++ [j]).isEmpty = false by cases pre <;> rfl] at this
      simpa using this
    · simp only [L112al0b, T112al0b, e, cond_true, first_igt, L112aj13b, T112aj13b, e2, cond_false, L112aj15b, T112aj15b, ile_pre, e3, e4, wadd_pre pre j (by omega)]
      cases pre.isEmpty <;> rfl
/-- a list, printed -/
noncomputable def putP (L : List J) : LB := render (.list L)
theorem f41 {α : Type} (k : Nat) (hk : 20 ≤ k) (hk2 : k ≤ 1000000000000) (L : List J) (hL : L.length < k) (hg : ∀ j ∈ L, good k 15 j) (K : LB → Int → Option α) :
    ((putP L).length ≤ 65536 → f41a k 4 false 0 [] (rowsJ L) [] K = K (putP L) 0) ∧ (65536 < (putP L).length → ∃ e : Int, e ≠ 0 ∧ f41a k 4 false 0 [] (rowsJ L) [] K = K [] e) := by
  have hA : Adds (fun α K E => f68a k 0 [] 4 false 0 [] (rowsJ L) [] K (fun e o _ _ _ _ _ _ => E e o)) [] (putP L) := by
    have er : putP L = [91] ++ (items true L ++ [93]) := by simp [putP, render]
    rw [er]
    refine ((adds108 k [91] [] (by simp) (by simp)).seq (G := fun α y K E => L112al0b k K (fun e o _ _ _ _ _ _ => E e o) 4 false 0 [] (rowsJ L) [] [93] 1 k (L.length : Int) 0 y) fun h => ?_).congr fun α K E => ?_
    · have := top_run k 1 false 0 [] [] L L k [] ([] ++ [91]) rfl hL (by omega) (fun j hj => pr68 k hk2 15 k (by omega) j (hg j hj) 1 (by omega) (by omega)) h
      simpa using this
    · have e1 : ieq (4 : Int) 0 = false := rfl
      have e2 : ieq (4 : Int) 1 = false := rfl
      have e3 : ieq (4 : Int) 2 = false := rfl
      have e4 : ieq (4 : Int) 3 = false := rfl
      have e5 : ieq (4 : Int) 4 = true := rfl
      have e6 : wadd .i64 0 1 = 1 := rfl
      have e7 : igt 1 16 = false := rfl
      have e8 : ieq (4 : Int) 5 = false := rfl
      simp only [f68a, T68a, e1, e2, e3, e4, e5, cond_false, cond_true, L68aj5, T68aj5, e6, f112a, T112a, e7, L112aj0, T112aj0, e8, L112aj3, T112aj3, rlen, rowsJ_len]
      rfl
  unfold f41a T41a
  rcases hA with ⟨h1, h2⟩ | ⟨h1, e, o', he, h2⟩
  · rw [List.nil_append] at h1
    refine ⟨fun _ => ?_, fun h => by omega⟩
    refine (h2 α (fun y0 => K (bytesOf y0) 0) (fun e o => bif ine e 0 then K [] e else K [] e)).trans ?_
    rw [List.nil_append, bytes_back]
  · rw [List.nil_append] at h1
    refine ⟨fun h => by omega, fun _ => ⟨e, he, ?_⟩⟩
    refine (h2 α (fun y0 => K (bytesOf y0) 0) (fun e o => bif ine e 0 then K [] e else K [] e)).trans ?_
    cases ine e 0 <;> rfl

/-! ### what may be prints -/
theorem ascii_rune (c : UInt8) (h : c.toNat < 128) (l : LB) : runeP (c :: l) = ((c.toNat : Int), 1) := by
  have key : ∀ c : Fin 128, fitsP 1 (UInt8.ofNat c.1) = true ∧ wandn .i64 (wcv .i64 ((UInt8.ofNat c.1).toNat : Int)) (mskN 1) = ((UInt8.ofNat c.1).toNat : Int) ∧ mayB ((UInt8.ofNat c.1).toNat : Int) = true ∧ ilt ((UInt8.ofNat c.1).toNat : Int) (leastN 1) = false := by decide +kernel
  have hc : UInt8.ofNat c.toNat = c := by simp
  obtain ⟨k1, k2, k3, k4⟩ := key ⟨c.toNat, h⟩
  simp only [hc] at k1 k2 k3 k4
  unfold runeP
  dsimp only
  rw [k1, cond_true]
  unfold tryP
  rw [Nat.ble_eq_true_of_le (by omega), cond_true, Nat.sub_self]
  simp only [innerP, k2, k4, k3, cond_false, cond_true]
  rfl
theorem ascii_valid : ∀ (n : Nat) (x : LB), x.length ≤ n → (∀ c ∈ x, c.toNat < 128) → validN n x = true
  | n, [], _, _ => by cases n <;> rfl
  | 0, c :: l, h, _ => by simp at h
  | n + 1, c :: l, h, ha => by
    unfold validN
    rw [ascii_rune c (ha c (by simp)) l]
    have : ieq (1 : Int) 0 = false := rfl
    simp only [this, cond_false]
    exact ascii_valid n l (by simpa using h) (fun d hd => ha d (by simp [hd]))
theorem goodS_ascii {k : Nat} (hk : 100 ≤ k) {x : LB} (hl : x.length ≤ 64) (h : ∀ c ∈ x, c.toNat < 128) : goodS k x := ⟨ascii_valid x.length x (Nat.le_refl _) h, by omega, by omega⟩
theorem goodS_key {k : Nat} (hk : 100 ≤ k) {x : LB} (h : keyB x = true) : goodS k x := by
  obtain ⟨h1, h2, h3⟩ := (keyB_iff x).1 h
  exact goodS_ascii hk h2 fun c hc => by have := h3 c hc; omega
theorem goodS_name {k : Nat} (hk : 100 ≤ k) {x : LB} (h : nameB x = true) : goodS k x := by
  obtain ⟨h2, h3⟩ := nameB_imp h
  exact goodS_ascii hk (by omega) fun c hc => by have := mem_wchars c (h3 c hc); omega
theorem goodS_lit {k : Nat} (hk : 100 ≤ k) {x : LB} (hl : x.length ≤ 64) (h : (x.all fun c => decide (c.toNat < 128)) = true) : goodS k x := goodS_ascii hk hl (by simpa using h)
theorem intOK_in {n : Int} (h0 : -9223372036854775808 ≤ n) (h1 : n ≤ 9223372036854775807) : intOK n = true := by simp [intOK, h0, h1]
theorem goodL_of {k d : Nat} : ∀ {l : List J}, (∀ j ∈ l, good k d j) → goodL k d l
  | [], _ => by simp [goodL]
  | a :: l, h => by unfold goodL; exact ⟨h a (by simp), goodL_of fun j hj => h j (by simp [hj])⟩
theorem good_objJ {k d : Nat} {ps : List (LB × J)} (h1 : ps.length < k) (h2 : (ps.map (·.1)).Nodup) (h3 : ∀ p ∈ ps, goodS k p.1) (h4 : ∀ p ∈ ps, good k d p.2) : good k (d + 1) (objJ ps) := by
  unfold objJ good
  refine ⟨by omega, by simp, by simpa using h1, h2, fun x hx => ?_, goodL_of fun j hj => ?_⟩
  · obtain ⟨p, hp, rfl⟩ := List.mem_map.1 hx; exact h3 p hp
  · obtain ⟨p, hp, rfl⟩ := List.mem_map.1 hj; exact h4 p hp
theorem good_list {k d : Nat} {l : List J} (h1 : l.length < k) (h : ∀ j ∈ l, good k d j) : good k (d + 1) (.list l) := by
  unfold good; exact ⟨by omega, h1, goodL_of h⟩
theorem good_scalar {k d : Nat} (hk : 100 ≤ k) {x0 x1 : Int} {x2 : Bool} {x3 : LB} (h : valueB x0 x1 x2 x3 = true) (hi : intOK x1 = true) : good k d (scalarJ x0 x1 x2 x3) := by
  rcases valueB_imp h with ⟨rfl, _⟩ | ⟨rfl, _⟩ | ⟨rfl, _⟩ | ⟨rfl, _, _, h4, h5⟩
  · cases d <;> simp [scalarJ, ieq, good]
  · cases d <;> simpa [scalarJ, ieq, good] using hi
  · cases d <;> simp [scalarJ, ieq, good]
  · have : goodS k x3 := ⟨h5, by omega, by omega⟩
    cases d <;> simpa [scalarJ, ieq, good] using this
end Go.AI

/-
  PLAIN LAWS: what may be is printed; what Put comes to.
-/
set_option maxRecDepth 100000
set_option linter.unusedVariables false
set_option linter.unusedSimpArgs false
namespace Go.AI
open Go.Proofs

theorem condF {a b : Bool} (h : (bif a then b else false) = true) : a = true ∧ b = true := by cases a <;> simp_all
theorem condN {a b : Bool} (h : (bif a then false else b) = true) : a = false ∧ b = true := by cases a <;> simp_all
theorem mayA_cases (x0 : Int) (x1 : LB) (x2 : Int) (x3 : Int) (x4 : LR) (x5 : LR) (x6 : LB) (x7 : LB) (x8 : LB) (x9 : Int) (x10 : Int) (x11 : LR) (x12 : Int) (x13 : Int) (x14 : LR) (x15 : LB) (x16 : Int) (x17 : Int) (x18 : Int) (x19 : Int) (h : mayA x0 x1 x2 x3 x4 x5 x6 x7 x8 x9 x10 x11 x12 x13 x14 x15 x16 x17 x18 x19 = true) : (x0 = 0 ∧ fileB x1 x2 x3 x4 x5 = true ∧ bareB x0 x1 x2 x3 x4 x5 x6 x7 x8 x9 x10 x11 x12 x13 x14 x15 x16 x17 x18 x19 x0 x1 x2 x3 x4 x5 [] [] [] 0 0 [] 0 0 [] [] 0 0 0 0 = true) ∨ (x0 = 1 ∧ keyB x6 = true ∧ bareB x0 x1 x2 x3 x4 x5 x6 x7 x8 x9 x10 x11 x12 x13 x14 x15 x16 x17 x18 x19 x0 [] 0 0 [] [] x6 [] [] 0 0 [] 0 0 [] [] 0 0 0 0 = true) ∨ (x0 = 2 ∧ markB x7 x8 x9 = true ∧ bareB x0 x1 x2 x3 x4 x5 x6 x7 x8 x9 x10 x11 x12 x13 x14 x15 x16 x17 x18 x19 x0 [] 0 0 [] [] [] x7 x8 x9 0 [] 0 0 [] [] 0 0 0 0 = true) ∨ (x0 = 3 ∧ schemaB x10 x11 x12 = true ∧ bareB x0 x1 x2 x3 x4 x5 x6 x7 x8 x9 x10 x11 x12 x13 x14 x15 x16 x17 x18 x19 x0 [] 0 0 [] [] [] [] [] 0 x10 x11 x12 0 [] [] 0 0 0 0 = true) ∨ (x0 = 4 ∧ specB x13 x14 = true ∧ bareB x0 x1 x2 x3 x4 x5 x6 x7 x8 x9 x10 x11 x12 x13 x14 x15 x16 x17 x18 x19 x0 [] 0 0 [] [] [] [] [] 0 0 [] 0 x13 x14 [] 0 0 0 0 = true) ∨ (x0 = 5 ∧ keyB x15 = true ∧ bareB x0 x1 x2 x3 x4 x5 x6 x7 x8 x9 x10 x11 x12 x13 x14 x15 x16 x17 x18 x19 x0 [] 0 0 [] [] [] [] [] 0 0 [] 0 0 [] x15 0 0 0 0 = true) ∨ (x0 = 6 ∧ infoB x16 x17 x18 x19 = true ∧ bareB x0 x1 x2 x3 x4 x5 x6 x7 x8 x9 x10 x11 x12 x13 x14 x15 x16 x17 x18 x19 x0 [] 0 0 [] [] [] [] [] 0 0 [] 0 0 [] [] x16 x17 x18 x19 = true) := by
  unfold mayA at h
  cases h0 : ieq x0 0
  rotate_left
  · rw [h0, cond_true] at h
    obtain ⟨a, b⟩ := condF h
    exact (.inl ⟨(ieq_iff _ _).1 h0, a, b⟩)
  rw [h0, cond_false] at h
  cases h1 : ieq x0 1
  rotate_left
  · rw [h1, cond_true] at h
    obtain ⟨a, b⟩ := condF h
    exact (.inr (.inl ⟨(ieq_iff _ _).1 h1, a, b⟩))
  rw [h1, cond_false] at h
  cases h2 : ieq x0 2
  rotate_left
  · rw [h2, cond_true] at h
    obtain ⟨a, b⟩ := condF h
    exact (.inr (.inr (.inl ⟨(ieq_iff _ _).1 h2, a, b⟩)))
  rw [h2, cond_false] at h
  cases h3 : ieq x0 3
  rotate_left
  · rw [h3, cond_true] at h
    obtain ⟨a, b⟩ := condF h
    exact (.inr (.inr (.inr (.inl ⟨(ieq_iff _ _).1 h3, a, b⟩))))
  rw [h3, cond_false] at h
  cases h4 : ieq x0 4
  rotate_left
  · rw [h4, cond_true] at h
    obtain ⟨a, b⟩ := condF h
    exact (.inr (.inr (.inr (.inr (.inl ⟨(ieq_iff _ _).1 h4, a, b⟩)))))
  rw [h4, cond_false] at h
  cases h5 : ieq x0 5
  rotate_left
  · rw [h5, cond_true] at h
    obtain ⟨a, b⟩ := condF h
    exact (.inr (.inr (.inr (.inr (.inr (.inl ⟨(ieq_iff _ _).1 h5, a, b⟩))))))
  rw [h5, cond_false] at h
  cases h6 : ieq x0 6
  rotate_left
  · rw [h6, cond_true] at h
    obtain ⟨a, b⟩ := condF h
    exact (.inr (.inr (.inr (.inr (.inr (.inr ⟨(ieq_iff _ _).1 h6, a, b⟩))))))
  rw [h6, cond_false] at h
  cases h
theorem bareB_imp (x0 : Int) (x1 : LB) (x2 : Int) (x3 : Int) (x4 : LR) (x5 : LR) (x6 : LB) (x7 : LB) (x8 : LB) (x9 : Int) (x10 : Int) (x11 : LR) (x12 : Int) (x13 : Int) (x14 : LR) (x15 : LB) (x16 : Int) (x17 : Int) (x18 : Int) (x19 : Int) (x20 : Int) (x21 : LB) (x22 : Int) (x23 : Int) (x24 : LR) (x25 : LR) (x26 : LB) (x27 : LB) (x28 : LB) (x29 : Int) (x30 : Int) (x31 : LR) (x32 : Int) (x33 : Int) (x34 : LR) (x35 : LB) (x36 : Int) (x37 : Int) (x38 : Int) (x39 : Int) (h : bareB x0 x1 x2 x3 x4 x5 x6 x7 x8 x9 x10 x11 x12 x13 x14 x15 x16 x17 x18 x19 x20 x21 x22 x23 x24 x25 x26 x27 x28 x29 x30 x31 x32 x33 x34 x35 x36 x37 x38 x39 = true) :
    x1 = x21 ∧ x2 = x22 ∧ x3 = x23 ∧ x4.length = x24.length ∧ x5.length = x25.length ∧ x10 = x30 ∧ x12 = x32 ∧ x11.length = x31.length ∧ x13 = x33 ∧ x14.length = x34.length ∧ x6 = x26 ∧ x7 = x27 ∧ x8 = x28 ∧ x9 = x29 ∧ x15 = x35 ∧ x16 = x36 ∧ x17 = x37 ∧ x18 = x38 ∧ x19 = x39 := by
  simpa only [bareB, Bool.and_eq_true, decide_eq_true_eq] using h
theorem fileB_imp {x0 : LB} {x1 x2 : Int} {x3 x4 : LR} (h : fileB x0 x1 x2 x3 x4 = true) : keyB x0 = true ∧ (0 ≤ x1 ∧ x1 ≤ 4096) ∧ (0 ≤ x2 ∧ x2 ≤ 2147483647) ∧ x3.length ≤ 4 ∧ x4.length ≤ 12 ∧ (∀ r ∈ x3, valRow r = true) ∧ statsB x1 0 x4 = true := by
  unfold fileB at h
  obtain ⟨a, h⟩ := condF h
  obtain ⟨b, h⟩ := condF h
  obtain ⟨c, h⟩ := condF h
  obtain ⟨d, h⟩ := condN h
  obtain ⟨e, h⟩ := condN h
  obtain ⟨f, h⟩ := condF h
  refine ⟨a, (inB_iff _ _).1 b, (inB_iff _ _).1 c, ?_, ?_, by simpa using f, h⟩
  · simp [igt, rlen] at d; omega
  · simp [igt, rlen] at e; omega
theorem statsB_mem {x2 : Int} : ∀ {l : LR} {last : Int}, statsB x2 last l = true → ∀ r ∈ l, (0 ≤ toI (lget r 1 .unk) ∧ toI (lget r 1 .unk) ≤ x2) ∧ valueB (toI (lget r 2 .unk)) (toI (lget r 3 .unk)) (toB (lget r 4 .unk)) (toS (lget r 5 .unk)) = true ∧ valueB (toI (lget r 6 .unk)) (toI (lget r 7 .unk)) (toB (lget r 8 .unk)) (toS (lget r 9 .unk)) = true
  | [], _, _, r, hr => by simp at hr
  | a :: l, last, h, r, hr => by
    unfold statsB at h
    obtain ⟨a1, h⟩ := condN h
    obtain ⟨b, h⟩ := condF h
    obtain ⟨c, h⟩ := condF h
    obtain ⟨d, h⟩ := condF h
    rcases List.mem_cons.1 hr with rfl | hr
    · exact ⟨(inB_iff _ _).1 b, c, d⟩
    · exact statsB_mem h r hr
theorem colsB_mem {x2 : Int} : ∀ {l pre : LR}, colsB x2 pre l = true → ∀ r ∈ l, 1 ≤ toI (lget r 0 .unk) ∧ toI (lget r 0 .unk) < x2 ∧ nameB (toS (lget r 1 .unk)) = true ∧ 1 ≤ toI (lget r 2 .unk) ∧ toI (lget r 2 .unk) ≤ 3
  | [], _, _, r, hr => by simp at hr
  | a :: l, pre, h, r, hr => by
    unfold colsB at h
    obtain ⟨h1, h⟩ := condF h
    unfold colRow at h1
    obtain ⟨a1, h1⟩ := condN h1
    obtain ⟨a2, h1⟩ := condN h1
    obtain ⟨a3, h1⟩ := condF h1
    obtain ⟨a4, h1⟩ := condF h1
    rcases List.mem_cons.1 hr with rfl | hr
    · have := (kindB_iff _).1 a4
      simp [ilt, ige] at a1 a2
      exact ⟨a1, a2, a3, this.1, this.2⟩
    · exact colsB_mem h r hr
theorem schemaB_imp {x0 : Int} {x1 : LR} {x2 : Int} (h : schemaB x0 x1 x2 = true) : (0 ≤ x0 ∧ x0 ≤ 2147483647) ∧ x1.length ≤ 12 ∧ (1 ≤ x2 ∧ x2 ≤ 2147483647) ∧ colsB x2 [] x1 = true := by
  unfold schemaB at h
  obtain ⟨a, h⟩ := condN h
  obtain ⟨b, h⟩ := condN h
  obtain ⟨c, h⟩ := condN h
  obtain ⟨d, h⟩ := condN h
  obtain ⟨e, h⟩ := condN h
  obtain ⟨f, h⟩ := condN h
  simp [ilt, igt, rlen] at a b c d e f
  exact ⟨⟨a, b⟩, by omega, ⟨e, f⟩, h⟩
theorem fieldRow_imp {r : List AV} (h : fieldRow r = true) : (1 ≤ toI (lget r 0 .unk) ∧ toI (lget r 0 .unk) ≤ 2147483647) ∧ (0 ≤ toI (lget r 1 .unk) ∧ toI (lget r 1 .unk) ≤ 2) ∧ (0 ≤ toI (lget r 2 .unk) ∧ toI (lget r 2 .unk) ≤ 1024) := by
  unfold fieldRow at h
  obtain ⟨a, h⟩ := condN h
  obtain ⟨b, h⟩ := condN h
  simp [ilt, igt] at a b
  refine ⟨⟨a, b⟩, ?_⟩
  unfold paramB at h
  cases e0 : ieq (toI (lget r 1 .unk)) 0
  · rw [e0, cond_false] at h
    obtain ⟨h1, h2⟩ := condF h
    obtain ⟨h3, h4⟩ := condF h2
    simp [ige, ile] at h3 h4
    have : toI (lget r 1 .unk) = 1 ∨ toI (lget r 1 .unk) = 2 := by
      cases e1 : ieq (toI (lget r 1 .unk)) 1
      · rw [e1, cond_false] at h1; exact .inr ((ieq_iff _ _).1 h1)
      · exact .inl ((ieq_iff _ _).1 e1)
    omega
  · rw [e0, cond_true] at h
    have := (ieq_iff _ _).1 e0
    have := (ieq_iff _ _).1 h
    omega
theorem specB_imp {x0 : Int} {x1 : LR} (h : specB x0 x1 = true) : (0 ≤ x0 ∧ x0 ≤ 2147483647) ∧ x1.length ≤ 4 ∧ ∀ r ∈ x1, fieldRow r = true := by
  unfold specB at h
  obtain ⟨a, h⟩ := condF h
  obtain ⟨b, h⟩ := condN h
  simp [igt, rlen] at b
  exact ⟨(inB_iff _ _).1 a, by omega, by simpa using h⟩
theorem markB_imp {x y : LB} {n : Int} (h : markB x y n = true) : keyB x = true ∧ keyB y = true ∧ 1 ≤ n ∧ n ≤ 4096 := by
  unfold markB at h
  obtain ⟨a, h⟩ := condF h
  obtain ⟨b, h⟩ := condF h
  obtain ⟨c, h⟩ := condF h
  simp [ige, ile] at c h
  exact ⟨a, b, c, h⟩
theorem infoB_imp {a b c d : Int} (h : infoB a b c d = true) : (0 ≤ a ∧ a ≤ 8) ∧ (0 ≤ b ∧ b ≤ 2147483647) ∧ (0 ≤ c ∧ c ≤ 11) ∧ 0 ≤ d := by
  unfold infoB at h
  obtain ⟨a, h⟩ := condF h
  obtain ⟨b, h⟩ := condF h
  obtain ⟨c, h⟩ := condF h
  simp [ige] at h
  exact ⟨(inB_iff _ _).1 a, (inB_iff _ _).1 b, (inB_iff _ _).1 c, h⟩

/-- the numbers of an action that nothing else bounds are int64's -/
def wfA (x4 x5 : LR) (x19 : Int) : Prop := (∀ v ∈ x4, intOK (toI (lget v 1 .unk)) = true) ∧ (∀ v ∈ x5, intOK (toI (lget v 0 .unk)) = true ∧ intOK (toI (lget v 3 .unk)) = true ∧ intOK (toI (lget v 7 .unk)) = true) ∧ intOK x19 = true
def wfRow (r : List AV) : Prop := wfA (toR (lget r 4 .unk)) (toR (lget r 5 .unk)) (toI (lget r 19 .unk))
theorem all_cons {β : Type} {p : β → Prop} {a : β} {l : List β} (h : p a) (hl : ∀ x ∈ l, p x) : ∀ x ∈ a :: l, p x := fun x hx => by
  rcases List.mem_cons.1 hx with rfl | hx
  · exact h
  · exact hl x hx
theorem all_nil {β : Type} {p : β → Prop} : ∀ x ∈ ([] : List β), p x := fun x hx => by simp at hx
theorem good_int {k d : Nat} {n : Int} (h : intOK n = true) : good k d (.int n) := by cases d <;> exact h
theorem good_text {k d : Nat} {s : LB} (h : goodS k s) : good k d (.text s) := by cases d <;> exact h
theorem good_stat {k d : Nat} (hk : 100 ≤ k) {r : List AV} (h1 : intOK (toI (lget r 0 .unk)) = true) (h2 : intOK (toI (lget r 1 .unk)) = true) (h3 : valueB (toI (lget r 2 .unk)) (toI (lget r 3 .unk)) (toB (lget r 4 .unk)) (toS (lget r 5 .unk)) = true) (h4 : valueB (toI (lget r 6 .unk)) (toI (lget r 7 .unk)) (toB (lget r 8 .unk)) (toS (lget r 9 .unk)) = true)
    (h5 : intOK (toI (lget r 3 .unk)) = true) (h6 : intOK (toI (lget r 7 .unk)) = true) : good k (d + 1) (statJ r) := by
  unfold statJ statPs
  refine good_objJ (by simp; omega) (by simp only [List.map_cons, List.map_nil]; decide) ?_ ?_
  · exact all_cons (goodS_lit hk (by simp) rfl) (all_cons (goodS_lit hk (by simp) rfl) (all_cons (goodS_lit hk (by simp) rfl) (all_cons (goodS_lit hk (by simp) rfl) all_nil)))
  · exact all_cons (good_int h1) (all_cons (good_int h2) (all_cons (good_scalar hk h3 h5) (all_cons (good_scalar hk h4 h6) all_nil)))
theorem good_col {k d : Nat} (hk : 100 ≤ k) {r : List AV} (h1 : intOK (toI (lget r 0 .unk)) = true) (h2 : nameB (toS (lget r 1 .unk)) = true) (h3 : intOK (toI (lget r 2 .unk)) = true) : good k (d + 1) (colJ r) := by
  unfold colJ colPs
  refine good_objJ (by simp; omega) (by simp only [List.map_cons, List.map_nil]; decide) ?_ ?_
  · exact all_cons (goodS_lit hk (by simp) rfl) (all_cons (goodS_lit hk (by simp) rfl) (all_cons (goodS_lit hk (by simp) rfl) all_nil))
  · exact all_cons (good_int h1) (all_cons (good_text (goodS_name hk h2)) (all_cons (good_int h3) all_nil))
theorem good_field {k d : Nat} (hk : 100 ≤ k) {r : List AV} (h1 : intOK (toI (lget r 0 .unk)) = true) (h2 : intOK (toI (lget r 1 .unk)) = true) (h3 : intOK (toI (lget r 2 .unk)) = true) : good k (d + 1) (fieldJ r) := by
  unfold fieldJ fieldPs
  refine good_objJ (by simp; omega) (by simp only [List.map_cons, List.map_nil]; decide) ?_ ?_
  · exact all_cons (goodS_lit hk (by simp) rfl) (all_cons (goodS_lit hk (by simp) rfl) (all_cons (goodS_lit hk (by simp) rfl) all_nil))
  · exact all_cons (good_int h1) (all_cons (good_int h2) (all_cons (good_int h3) all_nil))
theorem mayA_good {k : Nat} (hk : 100 ≤ k) (x0 : Int) (x1 : LB) (x2 : Int) (x3 : Int) (x4 : LR) (x5 : LR) (x6 : LB) (x7 : LB) (x8 : LB) (x9 : Int) (x10 : Int) (x11 : LR) (x12 : Int) (x13 : Int) (x14 : LR) (x15 : LB) (x16 : Int) (x17 : Int) (x18 : Int) (x19 : Int) (h : mayA x0 x1 x2 x3 x4 x5 x6 x7 x8 x9 x10 x11 x12 x13 x14 x15 x16 x17 x18 x19 = true) (hw : wfA x4 x5 x19) : good k 15 (objJ (onePs x0 x1 x2 x3 x4 x5 x6 x7 x8 x9 x10 x11 x12 x13 x14 x15 x16 x17 x18 x19)) ∧ x4.length ≤ 12 ∧ x5.length ≤ 12 ∧ x11.length ≤ 12 ∧ x14.length ≤ 12 := by
  obtain ⟨w1, w2, w3⟩ := hw
  simp only [intOK, Bool.and_eq_true, decide_eq_true_eq] at w3
  rcases mayA_cases _ _ _ _ _ _ _ _ _ _ _ _ _ _ _ _ _ _ _ _ h with ⟨rfl, c, b⟩ | ⟨rfl, c, b⟩ | ⟨rfl, c, b⟩ | ⟨rfl, c, b⟩ | ⟨rfl, c, b⟩ | ⟨rfl, c, b⟩ | ⟨rfl, c, b⟩
  · obtain ⟨b1, b2, b3, b4, b5, b10, b12, b11, b13, b14, b6, b7, b8, b9, b15, b16, b17, b18, b19⟩ := bareB_imp _ _ _ _ _ _ _ _ _ _ _ _ _ _ _ _ _ _ _ _ _ _ _ _ _ _ _ _ _ _ _ _ _ _ _ _ _ _ _ _ b
    simp only [List.length_nil] at b4 b5 b11 b14
    obtain ⟨c1, c2, c3, c4, c5, c6, c7⟩ := fileB_imp c
    refine ⟨?_, by omega, by omega, by omega, by omega⟩
    show good k 15 (objJ [([97, 100, 100], objJ [([112, 97, 116, 104], J.text x1), ([114, 111, 119, 115], J.int x2), ([115, 112, 101, 99], J.int x3), ([112, 97, 114, 116], J.list (x4.map valJ)), ([115, 116, 97, 116, 115], J.list (x5.map statJ))])])
    refine good_objJ (by simp; omega) (by simp only [List.map_cons, List.map_nil]; decide) (all_cons (goodS_lit hk (by simp) rfl) all_nil) (all_cons ?_ all_nil)
    refine good_objJ (by simp; omega) (by simp only [List.map_cons, List.map_nil]; decide) (all_cons (goodS_lit hk (by simp) rfl) (all_cons (goodS_lit hk (by simp) rfl) (all_cons (goodS_lit hk (by simp) rfl) (all_cons (goodS_lit hk (by simp) rfl) (all_cons (goodS_lit hk (by simp) rfl) all_nil))))) (all_cons (good_text (goodS_key hk c1)) (all_cons (good_int (intOK_in (by omega) (by omega))) (all_cons (good_int (intOK_in (by omega) (by omega))) (all_cons (good_list (by simp; omega) ?_) (all_cons (good_list (by simp; omega) ?_) all_nil)))))
    · intro j hj
      obtain ⟨v, hv, rfl⟩ := List.mem_map.1 hj
      exact good_scalar hk (c6 v hv) (w1 v hv)
    · intro j hj
      obtain ⟨v, hv, rfl⟩ := List.mem_map.1 hj
      obtain ⟨s1, s2, s3⟩ := statsB_mem c7 v hv
      obtain ⟨t1, t2, t3⟩ := w2 v hv
      exact good_stat hk t1 (intOK_in (by omega) (by omega)) s2 s3 t2 t3
  · obtain ⟨b1, b2, b3, b4, b5, b10, b12, b11, b13, b14, b6, b7, b8, b9, b15, b16, b17, b18, b19⟩ := bareB_imp _ _ _ _ _ _ _ _ _ _ _ _ _ _ _ _ _ _ _ _ _ _ _ _ _ _ _ _ _ _ _ _ _ _ _ _ _ _ _ _ b
    simp only [List.length_nil] at b4 b5 b11 b14
    refine ⟨?_, by omega, by omega, by omega, by omega⟩
    show good k 15 (objJ [([114, 101, 109, 111, 118, 101], J.text x6)])
    exact (good_objJ (by simp; omega) (by simp only [List.map_cons, List.map_nil]; decide) (all_cons (goodS_lit hk (by simp) rfl) all_nil) (all_cons (good_text (goodS_key hk c)) all_nil))
  · obtain ⟨b1, b2, b3, b4, b5, b10, b12, b11, b13, b14, b6, b7, b8, b9, b15, b16, b17, b18, b19⟩ := bareB_imp _ _ _ _ _ _ _ _ _ _ _ _ _ _ _ _ _ _ _ _ _ _ _ _ _ _ _ _ _ _ _ _ _ _ _ _ _ _ _ _ b
    simp only [List.length_nil] at b4 b5 b11 b14
    obtain ⟨c1, c2, c3, c4⟩ := markB_imp c
    refine ⟨?_, by omega, by omega, by omega, by omega⟩
    show good k 15 (objJ [([109, 97, 114, 107], objJ [([112, 97, 116, 104], J.text x7), ([102, 105, 108, 101], J.text x8), ([114, 111, 119, 115], J.int x9)])])
    exact (good_objJ (by simp; omega) (by simp only [List.map_cons, List.map_nil]; decide) (all_cons (goodS_lit hk (by simp) rfl) all_nil) (all_cons (good_objJ (by simp; omega) (by simp only [List.map_cons, List.map_nil]; decide) (all_cons (goodS_lit hk (by simp) rfl) (all_cons (goodS_lit hk (by simp) rfl) (all_cons (goodS_lit hk (by simp) rfl) all_nil))) (all_cons (good_text (goodS_key hk c1)) (all_cons (good_text (goodS_key hk c2)) (all_cons (good_int (intOK_in (by omega) (by omega))) all_nil)))) all_nil))
  · obtain ⟨b1, b2, b3, b4, b5, b10, b12, b11, b13, b14, b6, b7, b8, b9, b15, b16, b17, b18, b19⟩ := bareB_imp _ _ _ _ _ _ _ _ _ _ _ _ _ _ _ _ _ _ _ _ _ _ _ _ _ _ _ _ _ _ _ _ _ _ _ _ _ _ _ _ b
    simp only [List.length_nil] at b4 b5 b11 b14
    obtain ⟨c1, c2, c3, c4⟩ := schemaB_imp c
    refine ⟨?_, by omega, by omega, by omega, by omega⟩
    show good k 15 (objJ [([115, 99, 104, 101, 109, 97], objJ [([105, 100], J.int x10), ([110, 101, 120, 116], J.int x12), ([99, 111, 108, 117, 109, 110, 115], J.list (x11.map colJ))])])
    refine good_objJ (by simp; omega) (by simp only [List.map_cons, List.map_nil]; decide) (all_cons (goodS_lit hk (by simp) rfl) all_nil) (all_cons ?_ all_nil)
    refine good_objJ (by simp; omega) (by simp only [List.map_cons, List.map_nil]; decide) (all_cons (goodS_lit hk (by simp) rfl) (all_cons (goodS_lit hk (by simp) rfl) (all_cons (goodS_lit hk (by simp) rfl) all_nil))) (all_cons (good_int (intOK_in (by omega) (by omega))) (all_cons (good_int (intOK_in (by omega) (by omega))) (all_cons (good_list (by simp; omega) ?_) all_nil)))
    intro j hj
    obtain ⟨v, hv, rfl⟩ := List.mem_map.1 hj
    obtain ⟨s1, s2, s3, s4, s5⟩ := colsB_mem c4 v hv
    exact good_col hk (intOK_in (by omega) (by omega)) s3 (intOK_in (by omega) (by omega))
  · obtain ⟨b1, b2, b3, b4, b5, b10, b12, b11, b13, b14, b6, b7, b8, b9, b15, b16, b17, b18, b19⟩ := bareB_imp _ _ _ _ _ _ _ _ _ _ _ _ _ _ _ _ _ _ _ _ _ _ _ _ _ _ _ _ _ _ _ _ _ _ _ _ _ _ _ _ b
    simp only [List.length_nil] at b4 b5 b11 b14
    obtain ⟨c1, c2, c3⟩ := specB_imp c
    refine ⟨?_, by omega, by omega, by omega, by omega⟩
    show good k 15 (objJ [([115, 112, 101, 99], objJ [([105, 100], J.int x13), ([102, 105, 101, 108, 100, 115], J.list (x14.map fieldJ))])])
    refine good_objJ (by simp; omega) (by simp only [List.map_cons, List.map_nil]; decide) (all_cons (goodS_lit hk (by simp) rfl) all_nil) (all_cons ?_ all_nil)
    refine good_objJ (by simp; omega) (by simp only [List.map_cons, List.map_nil]; decide) (all_cons (goodS_lit hk (by simp) rfl) (all_cons (goodS_lit hk (by simp) rfl) all_nil)) (all_cons (good_int (intOK_in (by omega) (by omega))) (all_cons (good_list (by simp; omega) ?_) all_nil))
    intro j hj
    obtain ⟨v, hv, rfl⟩ := List.mem_map.1 hj
    obtain ⟨s1, s2, s3⟩ := fieldRow_imp (c3 v hv)
    exact good_field hk (intOK_in (by omega) (by omega)) (intOK_in (by omega) (by omega)) (intOK_in (by omega) (by omega))
  · obtain ⟨b1, b2, b3, b4, b5, b10, b12, b11, b13, b14, b6, b7, b8, b9, b15, b16, b17, b18, b19⟩ := bareB_imp _ _ _ _ _ _ _ _ _ _ _ _ _ _ _ _ _ _ _ _ _ _ _ _ _ _ _ _ _ _ _ _ _ _ _ _ _ _ _ _ b
    simp only [List.length_nil] at b4 b5 b11 b14
    refine ⟨?_, by omega, by omega, by omega, by omega⟩
    show good k 15 (objJ [([116, 120, 110], J.text x15)])
    exact (good_objJ (by simp; omega) (by simp only [List.map_cons, List.map_nil]; decide) (all_cons (goodS_lit hk (by simp) rfl) all_nil) (all_cons (good_text (goodS_key hk c)) all_nil))
  · obtain ⟨b1, b2, b3, b4, b5, b10, b12, b11, b13, b14, b6, b7, b8, b9, b15, b16, b17, b18, b19⟩ := bareB_imp _ _ _ _ _ _ _ _ _ _ _ _ _ _ _ _ _ _ _ _ _ _ _ _ _ _ _ _ _ _ _ _ _ _ _ _ _ _ _ _ b
    simp only [List.length_nil] at b4 b5 b11 b14
    obtain ⟨c1, c2, c3, c4⟩ := infoB_imp c
    refine ⟨?_, by omega, by omega, by omega, by omega⟩
    show good k 15 (objJ [([105, 110, 102, 111], objJ [([99, 108, 105, 101, 110, 116], J.int x16), ([115, 101, 113], J.int x17), ([111, 112], J.int x18), ([116, 105, 109, 101], J.int x19)])])
    exact (good_objJ (by simp; omega) (by simp only [List.map_cons, List.map_nil]; decide) (all_cons (goodS_lit hk (by simp) rfl) all_nil) (all_cons (good_objJ (by simp; omega) (by simp only [List.map_cons, List.map_nil]; decide) (all_cons (goodS_lit hk (by simp) rfl) (all_cons (goodS_lit hk (by simp) rfl) (all_cons (goodS_lit hk (by simp) rfl) (all_cons (goodS_lit hk (by simp) rfl) all_nil)))) (all_cons (good_int (intOK_in (by omega) (by omega))) (all_cons (good_int (intOK_in (by omega) (by omega))) (all_cons (good_int (intOK_in (by omega) (by omega))) (all_cons (good_int (intOK_in (by omega) (by omega))) all_nil))))) all_nil))
theorem mayRow_good {k : Nat} (hk : 100 ≤ k) {r : List AV} (h : mayRow r = true) (hw : wfRow r) : good k 15 (oneJ r) ∧ shortRow k r := by
  obtain ⟨a, b, c, d, e⟩ := mayA_good hk _ _ _ _ _ _ _ _ _ _ _ _ _ _ _ _ _ _ _ _ h hw
  exact ⟨a, by omega, by omega, by omega, by omega⟩
end Go.AI

/-
  PLAIN LAWS: Put.
-/
set_option maxRecDepth 100000
set_option linter.unusedVariables false
set_option linter.unusedSimpArgs false
namespace Go.AI
open Go.Proofs

/-- does Put take these actions? -/
noncomputable def putOK (x : LR) : Bool := x.all mayRow && Nat.ble (putP (x.map oneJ)).length 65536
noncomputable def putT (x : LR) : LB := bif putOK x then putP (x.map oneJ) else []
noncomputable def putN (x : LR) : Int := bif putOK x then 0 else 1900
theorem put_run {α : Type} (k : Nat) (hk : 100 ≤ k) (hk2 : k ≤ 1000000000000) (x : LR) (hx : x.length < k) (hw : ∀ r ∈ x, wfRow r) (K : LB → Int → Option α) : ∀ (l : LR) (f : Nat) (pre : LR), x = pre ++ l → l.length < f → (∀ r ∈ pre, mayRow r = true) →
    L11al0 k K x f (pre.length : Int) = K (putT x) (putN x) := by
  intro l
  induction l with
  | nil =>
    intro f pre hp hf hm
    obtain ⟨f, rfl⟩ : ∃ g, f = g + 1 := ⟨f - 1, by omega⟩
    rw [List.append_nil] at hp
    have e : ilt (pre.length : Int) (rlen x) = false := by rw [hp]; simp [ilt, rlen]
    have hall : x.all mayRow = true := by rw [hp, List.all_eq_true]; exact hm
    have hgood : ∀ r ∈ x, good k 15 (oneJ r) ∧ shortRow k r := fun r hr => mayRow_good hk (hm r (hp ▸ hr)) (hw r hr)
    simp only [L11al0, T11al0, e, cond_false]
    rw [f42 k (by omega) hk2 x hx (fun r hr => (hgood r hr).2)]
    obtain ⟨g1, g2⟩ := f41 k (by omega) hk2 (x.map oneJ) (by simpa using hx) (fun j hj => by
      obtain ⟨r, hr, rfl⟩ := List.mem_map.1 hj
      exact (hgood r hr).1) (fun y1 y2 => (bif (ine y2 (0 : Int)) then (K ([] : LB) (1900 : Int)) else (K y1 (0 : Int))))
    unfold putT putN putOK
    rw [hall, Bool.true_and]
    by_cases h : (putP (x.map oneJ)).length ≤ 65536
    · rw [Nat.ble_eq_true_of_le h]
      exact (g1 h).trans rfl
    · have hb : Nat.ble (putP (x.map oneJ)).length 65536 = false := by
        cases hh : Nat.ble (putP (x.map oneJ)).length 65536
        · rfl
        · exact absurd (Nat.le_of_ble_eq_true hh) h
      rw [hb]
      obtain ⟨e, he, g⟩ := g2 (by omega)
      refine g.trans ?_
      have : ine e 0 = true := by simp [ine, he]
      rw [this]; rfl
  | cons r l ih =>
    intro f pre hp hf hm
    obtain ⟨f, rfl⟩ : ∃ g, f = g + 1 := ⟨f - 1, by omega⟩
    have hl : x.length = pre.length + (l.length + 1) := by rw [hp]; simp
    have e1 : ilt (pre.length : Int) (rlen x) = true := by rw [hp]; exact ilt_pre pre r l
    have e2 : rget x (pre.length : Int) = r := by rw [hp]; exact rget_pre pre r l
    simp only [L11al0, T11al0, e1, e2, ile_pre, cond_true, wadd_pre pre r (by omega), f9 k hk]
    show (bif !(mayRow r) then _ else _) = _
    cases hr : mayRow r
    · have : putOK x = false := by
        unfold putOK
        rw [hp, List.all_append, List.all_cons, hr]; simp
      unfold putT putN
      rw [this]; rfl
    · simp only [Bool.not_true, cond_false]
      exact ih f (pre ++ [r]) (by rw [hp, app_snoc]) (by simpa using hf) (fun q hq => by
        rcases List.mem_append.1 hq with hq | hq
        · exact hm q hq
        · simp at hq; rw [hq]; exact hr)
/-- Put, whatever it is handed -/
theorem f11 {α : Type} (k : Nat) (hk : 100 ≤ k) (hk2 : k ≤ 1000000000000) (x : LR) (hx : x.length < k) (hw : ∀ r ∈ x, wfRow r) (K : LB → Int → Option α) : f11a k x K = K (putT x) (putN x) := by
  unfold f11a T11a
  exact put_run k hk hk2 x hx hw K x k [] rfl hx (fun r hr => by simp at hr)
end Go.AI

/-
  PLAIN LAW: ActionTexts.
-/
set_option maxRecDepth 100000
set_option linter.unusedVariables false
set_option linter.unusedSimpArgs false
namespace Go.AI
open Go.Proofs

/-! ### numbers as texts -/
theorem dec_bytes : ∀ (n u : Nat), u ≤ n → ∀ c ∈ Lib.decDigits u, 48 ≤ c.toNat ∧ c.toNat ≤ 57 := by
  intro n
  induction n with
  | zero =>
    intro u hu c hc
    obtain rfl : u = 0 := by omega
    rw [Lib.decDigits_one (by omega)] at hc
    simp at hc; rw [hc]; decide
  | succ n ih =>
    intro u hu c hc
    by_cases h : u < 10
    · rw [Lib.decDigits_one h] at hc
      simp only [List.mem_singleton] at hc
      rw [hc]
      simp only [UInt8.toNat_ofNat']; omega
    · rw [Lib.decDigits, dif_neg h] at hc
      rcases List.mem_append.1 hc with hc | hc
      · exact ih (u / 10) (by omega) c hc
      · simp only [List.mem_singleton] at hc
        rw [hc]
        simp only [UInt8.toNat_ofNat']; omega
theorem itoa_bytes (n : Int) : ∀ c ∈ Lib.itoa n, 45 ≤ c.toNat ∧ c.toNat ≤ 57 := by
  intro c hc
  unfold Lib.itoa at hc
  split at hc
  · rcases List.mem_cons.1 hc with rfl | hc
    · decide
    · have := dec_bytes _ _ (Nat.le_refl _) c hc; omega
  · have := dec_bytes _ _ (Nat.le_refl _) c hc; omega
theorem itoa_one {n : Nat} (h : n < 10) : Lib.itoa (n : Int) = [UInt8.ofNat (48 + n)] := by
  unfold Lib.itoa
  rw [if_neg (by omega), Int.toNat_natCast, Lib.decDigits_one h]
theorem itoa0 : Lib.itoa 0 = [48] := itoa_one (n := 0) (by omega)
theorem itoa1 : Lib.itoa 1 = [49] := itoa_one (n := 1) (by omega)
theorem itoa2 : Lib.itoa 2 = [50] := itoa_one (n := 2) (by omega)
theorem itoa7 : Lib.itoa 7 = [55] := itoa_one (n := 7) (by omega)
def sgn (x : Int) (l : LB) : LB := bif ilt x 0 then 45 :: l else l
theorem dig8 (u : Nat) (hu : u < 18446744073709551616) : wcv .u8 (wadd .u64 48 (wrem (u : Int) 10)) = ((UInt8.ofNat (48 + u % 10)).toNat : Int) := by
  have h1 : wrem (u : Int) 10 = ((u % 10 : Nat) : Int) := by
    simp only [wrem]; exact (Int.ofNat_tmod u 10).symm
  rw [h1]
  simp only [wadd, wcv, IntKind.wrap, IntKind.signed, IntKind.bits, UInt8.toNat_ofNat']
  simp
  try omega
theorem quo10 (u : Nat) (hu : u < 18446744073709551616) : wquo .u64 (u : Int) 10 = ((u / 10 : Nat) : Int) := by
  simp only [wquo, IntKind.wrap, IntKind.signed, IntKind.bits]
  rw [show (u : Int).tdiv 10 = ((u / 10 : Nat) : Int) from (Int.ofNat_tdiv u 10).symm]
  simp; omega
theorem dec_end {α : Type} (k f : Nat) (x : Int) (K : LB → Option α) (c : UInt8) (acc : LB) (ha : acc.length ≤ 100) : L20al0 k K x (f + 1) 0 (byteRows (c :: acc)) = K (sgn x (c :: acc)) := by
  have e1 : igt 0 0 = false := rfl
  have e2 : ieq (rlen (byteRows (c :: acc))) 0 = false := by simp [ieq, rlen, byteRows]; omega
  have e3 : room (1 + (byteRows (c :: acc)).length) 1 = true := room_in (by rw [byteRows_length]; simp; omega)
  simp only [L20al0, T20al0, e1, e2, e3, cond_false, cond_true]
  have e4 : radd [[AV.i .u8 45]] (byteRows (c :: acc)) = byteRows (45 :: c :: acc) := rfl
  rw [e4, bytes_back, bytes_back]
  unfold sgn
  cases ilt x 0 <;> rfl
theorem dec_run {α : Type} (k : Nat) (x : Int) (K : LB → Option α) : ∀ (d f u : Nat) (acc : LB), 1 ≤ u → u < 10 ^ d → u < 18446744073709551616 → d < f → acc.length + d ≤ 100 →
    L20al0 k K x f (u : Int) (byteRows acc) = K (sgn x (Lib.decDigits u ++ acc)) := by
  intro d
  induction d with
  | zero => intro f u acc h1 h2; exact absurd h2 (by rw [Nat.pow_zero]; omega)
  | succ d ih =>
    intro f u acc h1 h2 h3 hf ha
    obtain ⟨f, rfl⟩ : ∃ g, f = g + 1 := ⟨f - 1, by omega⟩
    have e1 : igt (u : Int) 0 = true := by simp [igt]; omega
    have e3 : room (1 + (byteRows acc).length) 1 = true := room_in (by rw [byteRows_length]; omega)
    have e4 : radd [[AV.i .u8 ((UInt8.ofNat (48 + u % 10)).toNat : Int)]] (byteRows acc) = byteRows (UInt8.ofNat (48 + u % 10) :: acc) := rfl
    simp only [L20al0, T20al0, e1, e3, cond_true, dig8 u h3, quo10 u h3, e4]
    by_cases h : u < 10
    · have : u / 10 = 0 := by omega
      rw [this]
      obtain ⟨f, rfl⟩ : ∃ g, f = g + 1 := ⟨f - 1, by omega⟩
      rw [show ((0 : Nat) : Int) = 0 from rfl, dec_end k f x K _ acc (by omega), Lib.decDigits_one h, Nat.mod_eq_of_lt h]
      rfl
    · rw [ih f (u / 10) (UInt8.ofNat (48 + u % 10) :: acc) (by omega) (by rw [Nat.pow_succ] at h2; omega) (by omega) (by omega) (by simp; omega)]
      rw [Lib.decDigits.eq_1 u, dif_neg h]
      simp
theorem f20 {α : Type} (k : Nat) (hk : 25 ≤ k) (x : Int) (h0 : -9223372036854775808 ≤ x) (h1 : x ≤ 9223372036854775807) (K : LB → Option α) : f20a k x K = K (Lib.itoa x) := by
  unfold f20a T20a
  by_cases hx : x < 0
  · have e : ilt x 0 = true := by simp [ilt, hx]
    have e2 : wadd .u64 (wcv .u64 (wneg .i64 (wadd .i64 x 1))) 1 = ((x.natAbs : Nat) : Int) := by
      simp only [wadd, wcv, wneg, IntKind.wrap, IntKind.signed, IntKind.bits]
      simp; omega
    rw [e, cond_true, e2]
    simp only [L20aj2, T20aj2]
    have hp : (18446744073709551616 : Nat) ≤ 10 ^ 20 := by decide
    have := dec_run k x K 20 k x.natAbs [] (by omega) (by omega) (by omega) (by omega) (by simp)
    simp only [byteRows] at this
    rw [this]
    unfold sgn Lib.itoa
    rw [e, cond_true, if_pos hx, List.append_nil]
  · have e : ilt x 0 = false := by simp [ilt]; omega
    have e2 : wcv .u64 x = ((x.toNat : Nat) : Int) := by
      simp only [wcv, IntKind.wrap, IntKind.signed, IntKind.bits]
      simp; omega
    rw [e, cond_false, e2]
    simp only [L20aj2, T20aj2]
    have hi : Lib.itoa x = Lib.decDigits x.toNat := by unfold Lib.itoa; rw [if_neg hx]
    have hs : ∀ l, sgn x l = l := fun l => by unfold sgn; rw [e]; rfl
    rw [hi]
    by_cases hz : x.toNat = 0
    · rw [hz, Lib.decDigits_one (by omega)]
      obtain ⟨g, rfl⟩ : ∃ g, k = g + 2 := ⟨k - 2, by omega⟩
      have a1 : igt 0 0 = false := rfl
      have a2 : ieq (rlen ([] : LR)) 0 = true := rfl
      have a3 : room (1 + ([] : LR).length) 1 = true := rfl
      have a4 : wquo .u64 0 10 = 0 := rfl
      have a5 : radd [[AV.i .u8 (wcv .u8 (wadd .u64 48 (wrem 0 10)))]] ([] : LR) = byteRows [48] := rfl
      have st : L20al0 (g + 2) K x (g + 2) ((0 : Nat) : Int) [] = L20al0 (g + 2) K x (g + 1) 0 (byteRows [48]) := by
        rw [show ((0 : Nat) : Int) = 0 from rfl, show g + 2 = (g + 1) + 1 from rfl]
        simp only [L20al0, T20al0, a1, a2, a3, a4, a5, cond_false, cond_true]
      rw [st, dec_end (g + 2) g x K 48 [] (by simp), hs]
      rfl
    · have hp : (18446744073709551616 : Nat) ≤ 10 ^ 20 := by decide
      have := dec_run k x K 20 k x.toNat [] (by omega) (by omega) (by omega) (by omega) (by simp)
      simp only [byteRows] at this
      rw [this, hs, List.append_nil]

/-! ### texts -/
theorem esc_plain (c : UInt8) (h : 35 ≤ c.toNat) (h2 : c.toNat ≤ 91) : esc c = [c] := by
  have : ∀ c : Fin 256, 35 ≤ c.1 → c.1 ≤ 91 → esc (UInt8.ofNat c.1) = [UInt8.ofNat c.1] := by decide +kernel
  simpa using this ⟨c.toNat, c.toNat_lt⟩ h h2
theorem esc_num (n : Int) : (Lib.itoa n).flatMap esc = Lib.itoa n := by
  have key : ∀ l : LB, (∀ c ∈ l, 45 ≤ c.toNat ∧ c.toNat ≤ 57) → l.flatMap esc = l := by
    intro l
    induction l with
    | nil => intro _; rfl
    | cons c l ih =>
      intro h
      have := h c (by simp)
      rw [List.flatMap_cons, esc_plain c (by omega) (by omega), ih fun d hd => h d (by simp [hd])]
      rfl
  exact key _ (itoa_bytes n)
theorem q_add : quoteP [97, 100, 100] = [34, 97, 100, 100, 34] := by kernel_rfl
theorem q_path : quoteP [112, 97, 116, 104] = [34, 112, 97, 116, 104, 34] := by kernel_rfl
theorem q_rows : quoteP [114, 111, 119, 115] = [34, 114, 111, 119, 115, 34] := by kernel_rfl
theorem q_spec : quoteP [115, 112, 101, 99] = [34, 115, 112, 101, 99, 34] := by kernel_rfl
theorem q_part : quoteP [112, 97, 114, 116] = [34, 112, 97, 114, 116, 34] := by kernel_rfl
theorem q_stats : quoteP [115, 116, 97, 116, 115] = [34, 115, 116, 97, 116, 115, 34] := by kernel_rfl
theorem q_col : quoteP [99, 111, 108] = [34, 99, 111, 108, 34] := by kernel_rfl
theorem q_nulls : quoteP [110, 117, 108, 108, 115] = [34, 110, 117, 108, 108, 115, 34] := by kernel_rfl
theorem q_min : quoteP [109, 105, 110] = [34, 109, 105, 110, 34] := by kernel_rfl
theorem q_max : quoteP [109, 97, 120] = [34, 109, 97, 120, 34] := by kernel_rfl
theorem q_remove : quoteP [114, 101, 109, 111, 118, 101] = [34, 114, 101, 109, 111, 118, 101, 34] := by kernel_rfl
theorem q_mark : quoteP [109, 97, 114, 107] = [34, 109, 97, 114, 107, 34] := by kernel_rfl
theorem q_file : quoteP [102, 105, 108, 101] = [34, 102, 105, 108, 101, 34] := by kernel_rfl
theorem q_schema : quoteP [115, 99, 104, 101, 109, 97] = [34, 115, 99, 104, 101, 109, 97, 34] := by kernel_rfl
theorem q_id : quoteP [105, 100] = [34, 105, 100, 34] := by kernel_rfl
theorem q_next : quoteP [110, 101, 120, 116] = [34, 110, 101, 120, 116, 34] := by kernel_rfl
theorem q_columns : quoteP [99, 111, 108, 117, 109, 110, 115] = [34, 99, 111, 108, 117, 109, 110, 115, 34] := by kernel_rfl
theorem q_name : quoteP [110, 97, 109, 101] = [34, 110, 97, 109, 101, 34] := by kernel_rfl
theorem q_kind : quoteP [107, 105, 110, 100] = [34, 107, 105, 110, 100, 34] := by kernel_rfl
theorem q_fields : quoteP [102, 105, 101, 108, 100, 115] = [34, 102, 105, 101, 108, 100, 115, 34] := by kernel_rfl
theorem q_source : quoteP [115, 111, 117, 114, 99, 101] = [34, 115, 111, 117, 114, 99, 101, 34] := by kernel_rfl
theorem q_trans : quoteP [116, 114, 97, 110, 115] = [34, 116, 114, 97, 110, 115, 34] := by kernel_rfl
theorem q_param : quoteP [112, 97, 114, 97, 109] = [34, 112, 97, 114, 97, 109, 34] := by kernel_rfl
theorem q_txn : quoteP [116, 120, 110] = [34, 116, 120, 110, 34] := by kernel_rfl
theorem q_info : quoteP [105, 110, 102, 111] = [34, 105, 110, 102, 111, 34] := by kernel_rfl
theorem q_client : quoteP [99, 108, 105, 101, 110, 116] = [34, 99, 108, 105, 101, 110, 116, 34] := by kernel_rfl
theorem q_seq : quoteP [115, 101, 113] = [34, 115, 101, 113, 34] := by kernel_rfl
theorem q_op : quoteP [111, 112] = [34, 111, 112, 34] := by kernel_rfl
theorem q_time : quoteP [116, 105, 109, 101] = [34, 116, 105, 109, 101, 34] := by kernel_rfl
theorem q_q : quoteP [113] = [34, 113, 34] := by kernel_rfl
theorem q_p : quoteP [112] = [34, 112, 34] := by kernel_rfl
theorem q_m : quoteP [109] = [34, 109, 34] := by kernel_rfl
theorem q_nl : quoteP [10] = [34, 92, 110, 34] := by kernel_rfl
theorem qn_data (n : Int) : quoteP (100 :: 97 :: 116 :: 97 :: 47 :: Lib.itoa n) = 34 :: 100 :: 97 :: 116 :: 97 :: 47 :: (Lib.itoa n ++ [34]) := by
  show quoteP ([100, 97, 116, 97, 47] ++ Lib.itoa n) = _
  have e : ([100, 97, 116, 97, 47] : LB).flatMap esc = [100, 97, 116, 97, 47] := by kernel_rfl
  unfold quoteP quoteTail
  rw [List.flatMap_append, e, esc_num]; simp
theorem qn_f (n : Int) : quoteP (102 :: Lib.itoa n) = 34 :: 102 :: (Lib.itoa n ++ [34]) := by
  show quoteP ([102] ++ Lib.itoa n) = _
  have e : ([102] : LB).flatMap esc = [102] := by kernel_rfl
  unfold quoteP quoteTail
  rw [List.flatMap_append, e, esc_num]; simp
theorem qn_t (n : Int) : quoteP (116 :: Lib.itoa n) = 34 :: 116 :: (Lib.itoa n ++ [34]) := by
  show quoteP ([116] ++ Lib.itoa n) = _
  have e : ([116] : LB).flatMap esc = [116] := by kernel_rfl
  unfold quoteP quoteTail
  rw [List.flatMap_append, e, esc_num]; simp
theorem fbt : Lib.formatBool true = [116, 114, 117, 101] := by decide

/-! ### the seven actions -/
theorem key_num (p : LB) (hp : (p.all fun c => Nat.ble 33 c.toNat && Nat.ble c.toNat 126) = true) (hl : 1 ≤ p.length) (hl2 : p.length ≤ 10) (n : Int) (hn : intOK n = true) : keyB (sadd p (Lib.itoa n)) = true := by
  rw [keyB_iff]
  have := itoa_len n hn
  refine ⟨by simp only [sadd, List.length_append]; omega, by simp only [sadd, List.length_append]; omega, fun c hc => ?_⟩
  simp only [sadd, List.mem_append] at hc
  rcases hc with hc | hc
  · have := List.all_eq_true.1 hp c hc
    rw [Bool.and_eq_true] at this
    exact ⟨Nat.le_of_ble_eq_true this.1, Nat.le_of_ble_eq_true this.2⟩
  · have := itoa_bytes n c hc; omega
theorem put_of {r : List AV} {t : LB} (hm : mayRow r = true) (hp : putP [oneJ r] = t) (hl : t.length ≤ 65536) : putT [r] = t ∧ putN [r] = 0 := by
  have : putOK [r] = true := by
    unfold putOK
    simp only [List.all_cons, List.all_nil, hm, List.map_cons, List.map_nil, hp, Bool.and_true, Bool.true_and]
    exact Nat.ble_eq_true_of_le hl
  unfold putT putN
  rw [this]
  exact ⟨by simpa using hp, rfl⟩
def rowT0 (x y z c : Int) : List AV := [.i .i64 6, .s ([] : LB), .i .i64 (0 : Int), .i .i64 (0 : Int), .lst 61 [] .view, .lst 63 [] .view, .s ([] : LB), .s ([] : LB), .s ([] : LB), .i .i64 (0 : Int), .i .i64 (0 : Int), .lst 97 [] .view, .i .i64 (0 : Int), .i .i64 (0 : Int), .lst 59 [] .view, .s ([] : LB), .i .i64 c, .i .i64 y, .i .i64 2, .i .i64 x]
def rowT1 (x y z c : Int) : List AV := [.i .i64 1, .s ([] : LB), .i .i64 (0 : Int), .i .i64 (0 : Int), .lst 61 [] .view, .lst 63 [] .view, .s (sadd ([100, 97, 116, 97, 47] : LB) (Lib.itoa x)), .s ([] : LB), .s ([] : LB), .i .i64 (0 : Int), .i .i64 (0 : Int), .lst 97 [] .view, .i .i64 (0 : Int), .i .i64 (0 : Int), .lst 59 [] .view, .s ([] : LB), .i .i64 (0 : Int), .i .i64 (0 : Int), .i .i64 (0 : Int), .i .i64 (0 : Int)]
def rowT2 (x y z c : Int) : List AV := [.i .i64 2, .s ([] : LB), .i .i64 (0 : Int), .i .i64 (0 : Int), .lst 61 [] .view, .lst 63 [] .view, .s ([] : LB), .s ([109] : LB), .s (sadd ([102] : LB) (Lib.itoa x)), .i .i64 y, .i .i64 (0 : Int), .lst 97 [] .view, .i .i64 (0 : Int), .i .i64 (0 : Int), .lst 59 [] .view, .s ([] : LB), .i .i64 (0 : Int), .i .i64 (0 : Int), .i .i64 (0 : Int), .i .i64 (0 : Int)]
def rowT3 (x y z c : Int) : List AV := [.i .i64 3, .s ([] : LB), .i .i64 (0 : Int), .i .i64 (0 : Int), .lst 61 [] .view, .lst 63 [] .view, .s ([] : LB), .s ([] : LB), .s ([] : LB), .i .i64 (0 : Int), .i .i64 (0 : Int), .lst 97 [[.i .i64 1, .s [113], .i .i64 2]] .view, .i .i64 2, .i .i64 (0 : Int), .lst 59 [] .view, .s ([] : LB), .i .i64 (0 : Int), .i .i64 (0 : Int), .i .i64 (0 : Int), .i .i64 (0 : Int)]
def rowT4 (x y z c : Int) : List AV := [.i .i64 4, .s ([] : LB), .i .i64 (0 : Int), .i .i64 (0 : Int), .lst 61 [] .view, .lst 63 [] .view, .s ([] : LB), .s ([] : LB), .s ([] : LB), .i .i64 (0 : Int), .i .i64 (0 : Int), .lst 97 [] .view, .i .i64 (0 : Int), .i .i64 x, .lst 59 [[.i .i64 y, .i .i64 1, .i .i64 7]] .view, .s ([] : LB), .i .i64 (0 : Int), .i .i64 (0 : Int), .i .i64 (0 : Int), .i .i64 (0 : Int)]
def rowT5 (x y z c : Int) : List AV := [.i .i64 5, .s ([] : LB), .i .i64 (0 : Int), .i .i64 (0 : Int), .lst 61 [] .view, .lst 63 [] .view, .s ([] : LB), .s ([] : LB), .s ([] : LB), .i .i64 (0 : Int), .i .i64 (0 : Int), .lst 97 [] .view, .i .i64 (0 : Int), .i .i64 (0 : Int), .lst 59 [] .view, .s (sadd ([116] : LB) (Lib.itoa x)), .i .i64 (0 : Int), .i .i64 (0 : Int), .i .i64 (0 : Int), .i .i64 (0 : Int)]
def rowT6 (x y z c : Int) : List AV := [.i .i64 0, .s ([112] : LB), .i .i64 y, .i .i64 (0 : Int), .lst 61 [[.i .i64 0, .i .i64 0, .b false, .s []], [.i .i64 3, .i .i64 0, .b false, .s [10]]] .view, .lst 63 [[.i .i64 2, .i .i64 0, .i .i64 1, .i .i64 z, .b false, .s [], .i .i64 2, .i .i64 0, .b true, .s []]] .view, .s ([] : LB), .s ([] : LB), .s ([] : LB), .i .i64 (0 : Int), .i .i64 (0 : Int), .lst 97 [] .view, .i .i64 (0 : Int), .i .i64 (0 : Int), .lst 59 [] .view, .s ([] : LB), .i .i64 (0 : Int), .i .i64 (0 : Int), .i .i64 (0 : Int), .i .i64 (0 : Int)]
theorem mayT0 (x y z c : Int) (hx0 : 0 ≤ x) (hx1 : x ≤ 1023) (hy0 : 1 ≤ y) (hy1 : y ≤ 1024) (hc0 : 0 ≤ c) (hc1 : c ≤ 7) : mayRow (rowT0 x y z c) = true := by
  have ix : intOK x = true := intOK_in (by omega) (by omega)
  have hc : infoB c y 2 x = true := by simp only [infoB, (inB_iff _ _).2 (⟨hc0, by omega⟩ : 0 ≤ c ∧ c ≤ 8), (inB_iff _ _).2 (⟨by omega, by omega⟩ : 0 ≤ y ∧ y ≤ 2147483647), (inB_iff _ _).2 (⟨by omega, by omega⟩ : (0 : Int) ≤ 2 ∧ (2 : Int) ≤ 11), cond_true]; simp only [ige]; exact decide_eq_true (by omega)
  unfold mayRow rowT0
  simp only [lget, toI, toS, toR]
  unfold mayA
  rw [show ieq (6 : Int) 0 = false from rfl, cond_false]
  rw [show ieq (6 : Int) 1 = false from rfl, cond_false]
  rw [show ieq (6 : Int) 2 = false from rfl, cond_false]
  rw [show ieq (6 : Int) 3 = false from rfl, cond_false]
  rw [show ieq (6 : Int) 4 = false from rfl, cond_false]
  rw [show ieq (6 : Int) 5 = false from rfl, cond_false]
  rw [show ieq (6 : Int) 6 = true from rfl, cond_true, hc, cond_true]
  simp [bareB]
theorem putT0 (x y z c : Int) (ix : intOK x = true) (iy : intOK y = true) (iz : intOK z = true) (ic : intOK c = true) : putP [oneJ (rowT0 x y z c)] = [91] ++ (([123, 34, 105, 110, 102, 111, 34, 58, 123, 34, 99, 108, 105, 101, 110, 116, 34, 58] : LB) ++ Lib.itoa c ++ ([44, 34, 115, 101, 113, 34, 58] : LB) ++ Lib.itoa y ++ ([44, 34, 111, 112, 34, 58, 50, 44, 34, 116, 105, 109, 101, 34, 58] : LB) ++ Lib.itoa x ++ ([125, 125] : LB)) ++ [93] := by
  have e : oneJ (rowT0 x y z c) = oneJ (rowT0 x y z c) := rfl
  unfold oneJ rowT0
  simp only [lget, toI, toS, toR]
  unfold onePs
  rw [show ieq (6 : Int) 0 = false from rfl, cond_false]
  rw [show ieq (6 : Int) 1 = false from rfl, cond_false]
  rw [show ieq (6 : Int) 2 = false from rfl, cond_false]
  rw [show ieq (6 : Int) 3 = false from rfl, cond_false]
  rw [show ieq (6 : Int) 4 = false from rfl, cond_false]
  rw [show ieq (6 : Int) 5 = false from rfl, cond_false]
  simp [putP, render, items, members, objJ, lget, ldrop, q_add, q_path, q_rows, q_spec, q_part, q_stats, q_col, q_nulls, q_min, q_max, q_remove, q_mark, q_file, q_schema, q_id, q_next, q_columns, q_name, q_kind, q_fields, q_source, q_trans, q_param, q_txn, q_info, q_client, q_seq, q_op, q_time, q_q, q_p, q_m, q_nl, qn_data, qn_f, qn_t, itoa0, itoa1, itoa2, itoa7, sadd, colJ, colPs, fieldJ, fieldPs, statJ, statPs, valJ, scalarJ, ieq, toI, toS, toB, fbt]
theorem mayT1 (x y z c : Int) (hx0 : 0 ≤ x) (hx1 : x ≤ 1023) (hy0 : 1 ≤ y) (hy1 : y ≤ 1024) (hc0 : 0 ≤ c) (hc1 : c ≤ 7) : mayRow (rowT1 x y z c) = true := by
  have ix : intOK x = true := intOK_in (by omega) (by omega)
  have hc : keyB (sadd [100, 97, 116, 97, 47] (Lib.itoa x)) = true := key_num _ (by decide) (by simp) (by simp) x ix
  unfold mayRow rowT1
  simp only [lget, toI, toS, toR]
  unfold mayA
  rw [show ieq (1 : Int) 0 = false from rfl, cond_false]
  rw [show ieq (1 : Int) 1 = true from rfl, cond_true, hc, cond_true]
  simp [bareB]
theorem putT1 (x y z c : Int) (ix : intOK x = true) (iy : intOK y = true) (iz : intOK z = true) (ic : intOK c = true) : putP [oneJ (rowT1 x y z c)] = [91] ++ (([123, 34, 114, 101, 109, 111, 118, 101, 34, 58, 34, 100, 97, 116, 97, 47] : LB) ++ Lib.itoa x ++ ([34, 125] : LB)) ++ [93] := by
  have e : oneJ (rowT1 x y z c) = oneJ (rowT1 x y z c) := rfl
  unfold oneJ rowT1
  simp only [lget, toI, toS, toR]
  unfold onePs
  rw [show ieq (1 : Int) 0 = false from rfl, cond_false]
  rw [show ieq (1 : Int) 1 = true from rfl, cond_true]
  simp [putP, render, items, members, objJ, lget, ldrop, q_add, q_path, q_rows, q_spec, q_part, q_stats, q_col, q_nulls, q_min, q_max, q_remove, q_mark, q_file, q_schema, q_id, q_next, q_columns, q_name, q_kind, q_fields, q_source, q_trans, q_param, q_txn, q_info, q_client, q_seq, q_op, q_time, q_q, q_p, q_m, q_nl, qn_data, qn_f, qn_t, itoa0, itoa1, itoa2, itoa7, sadd, colJ, colPs, fieldJ, fieldPs, statJ, statPs, valJ, scalarJ, ieq, toI, toS, toB, fbt]
theorem mayT2 (x y z c : Int) (hx0 : 0 ≤ x) (hx1 : x ≤ 1023) (hy0 : 1 ≤ y) (hy1 : y ≤ 1024) (hc0 : 0 ≤ c) (hc1 : c ≤ 7) : mayRow (rowT2 x y z c) = true := by
  have ix : intOK x = true := intOK_in (by omega) (by omega)
  have hc : markB [109] (sadd [102] (Lib.itoa x)) y = true := by
    have h1 : keyB [109] = true := by kernel_rfl
    have h2 := key_num [102] (by decide) (by simp) (by simp) x ix
    simp only [markB, h1, h2, cond_true, ige, ile, decide_eq_true (show y ≥ 1 by omega), decide_eq_true (show y ≤ 4096 by omega)]
  unfold mayRow rowT2
  simp only [lget, toI, toS, toR]
  unfold mayA
  rw [show ieq (2 : Int) 0 = false from rfl, cond_false]
  rw [show ieq (2 : Int) 1 = false from rfl, cond_false]
  rw [show ieq (2 : Int) 2 = true from rfl, cond_true, hc, cond_true]
  simp [bareB]
theorem putT2 (x y z c : Int) (ix : intOK x = true) (iy : intOK y = true) (iz : intOK z = true) (ic : intOK c = true) : putP [oneJ (rowT2 x y z c)] = [91] ++ (([123, 34, 109, 97, 114, 107, 34, 58, 123, 34, 112, 97, 116, 104, 34, 58, 34, 109, 34, 44, 34, 102, 105, 108, 101, 34, 58, 34, 102] : LB) ++ Lib.itoa x ++ ([34, 44, 34, 114, 111, 119, 115, 34, 58] : LB) ++ Lib.itoa y ++ ([125, 125] : LB)) ++ [93] := by
  have e : oneJ (rowT2 x y z c) = oneJ (rowT2 x y z c) := rfl
  unfold oneJ rowT2
  simp only [lget, toI, toS, toR]
  unfold onePs
  rw [show ieq (2 : Int) 0 = false from rfl, cond_false]
  rw [show ieq (2 : Int) 1 = false from rfl, cond_false]
  rw [show ieq (2 : Int) 2 = true from rfl, cond_true]
  simp [putP, render, items, members, objJ, lget, ldrop, q_add, q_path, q_rows, q_spec, q_part, q_stats, q_col, q_nulls, q_min, q_max, q_remove, q_mark, q_file, q_schema, q_id, q_next, q_columns, q_name, q_kind, q_fields, q_source, q_trans, q_param, q_txn, q_info, q_client, q_seq, q_op, q_time, q_q, q_p, q_m, q_nl, qn_data, qn_f, qn_t, itoa0, itoa1, itoa2, itoa7, sadd, colJ, colPs, fieldJ, fieldPs, statJ, statPs, valJ, scalarJ, ieq, toI, toS, toB, fbt]
theorem mayT3 (x y z c : Int) (hx0 : 0 ≤ x) (hx1 : x ≤ 1023) (hy0 : 1 ≤ y) (hy1 : y ≤ 1024) (hc0 : 0 ≤ c) (hc1 : c ≤ 7) : mayRow (rowT3 x y z c) = true := by
  have ix : intOK x = true := intOK_in (by omega) (by omega)
  have hc : schemaB 0 [[.i .i64 1, .s [113], .i .i64 2]] 2 = true := by kernel_rfl
  unfold mayRow rowT3
  simp only [lget, toI, toS, toR]
  unfold mayA
  rw [show ieq (3 : Int) 0 = false from rfl, cond_false]
  rw [show ieq (3 : Int) 1 = false from rfl, cond_false]
  rw [show ieq (3 : Int) 2 = false from rfl, cond_false]
  rw [show ieq (3 : Int) 3 = true from rfl, cond_true, hc, cond_true]
  simp [bareB]
theorem putT3 (x y z c : Int) (ix : intOK x = true) (iy : intOK y = true) (iz : intOK z = true) (ic : intOK c = true) : putP [oneJ (rowT3 x y z c)] = [91] ++ (([123, 34, 115, 99, 104, 101, 109, 97, 34, 58, 123, 34, 105, 100, 34, 58, 48, 44, 34, 110, 101, 120, 116, 34, 58, 50, 44, 34, 99, 111, 108, 117, 109, 110, 115, 34, 58, 91, 123, 34, 105, 100, 34, 58, 49, 44, 34, 110, 97, 109, 101, 34, 58, 34, 113, 34, 44, 34, 107, 105, 110, 100, 34, 58, 50, 125, 93, 125, 125] : LB)) ++ [93] := by
  have e : oneJ (rowT3 x y z c) = oneJ (rowT3 x y z c) := rfl
  unfold oneJ rowT3
  simp only [lget, toI, toS, toR]
  unfold onePs
  rw [show ieq (3 : Int) 0 = false from rfl, cond_false]
  rw [show ieq (3 : Int) 1 = false from rfl, cond_false]
  rw [show ieq (3 : Int) 2 = false from rfl, cond_false]
  rw [show ieq (3 : Int) 3 = true from rfl, cond_true]
  simp [putP, render, items, members, objJ, lget, ldrop, q_add, q_path, q_rows, q_spec, q_part, q_stats, q_col, q_nulls, q_min, q_max, q_remove, q_mark, q_file, q_schema, q_id, q_next, q_columns, q_name, q_kind, q_fields, q_source, q_trans, q_param, q_txn, q_info, q_client, q_seq, q_op, q_time, q_q, q_p, q_m, q_nl, qn_data, qn_f, qn_t, itoa0, itoa1, itoa2, itoa7, sadd, colJ, colPs, fieldJ, fieldPs, statJ, statPs, valJ, scalarJ, ieq, toI, toS, toB, fbt]
theorem mayT4 (x y z c : Int) (hx0 : 0 ≤ x) (hx1 : x ≤ 1023) (hy0 : 1 ≤ y) (hy1 : y ≤ 1024) (hc0 : 0 ≤ c) (hc1 : c ≤ 7) : mayRow (rowT4 x y z c) = true := by
  have ix : intOK x = true := intOK_in (by omega) (by omega)
  have hc : specB x [[.i .i64 y, .i .i64 1, .i .i64 7]] = true := by
    have h1 : inB x 2147483647 = true := (inB_iff _ _).2 ⟨by omega, by omega⟩
    have h2 : fieldRow [.i .i64 y, .i .i64 1, .i .i64 7] = true := by
      have e1 : ilt y 1 = false := by simp only [ilt]; exact decide_eq_false (by omega)
      have e2 : igt y 2147483647 = false := by simp only [igt]; exact decide_eq_false (by omega)
      simp only [fieldRow, lget, toI, e1, e2, cond_false]; rfl
    simp only [specB, h1, cond_true, List.all_cons, List.all_nil, h2]; rfl
  unfold mayRow rowT4
  simp only [lget, toI, toS, toR]
  unfold mayA
  rw [show ieq (4 : Int) 0 = false from rfl, cond_false]
  rw [show ieq (4 : Int) 1 = false from rfl, cond_false]
  rw [show ieq (4 : Int) 2 = false from rfl, cond_false]
  rw [show ieq (4 : Int) 3 = false from rfl, cond_false]
  rw [show ieq (4 : Int) 4 = true from rfl, cond_true, hc, cond_true]
  simp [bareB]
theorem putT4 (x y z c : Int) (ix : intOK x = true) (iy : intOK y = true) (iz : intOK z = true) (ic : intOK c = true) : putP [oneJ (rowT4 x y z c)] = [91] ++ (([123, 34, 115, 112, 101, 99, 34, 58, 123, 34, 105, 100, 34, 58] : LB) ++ Lib.itoa x ++ ([44, 34, 102, 105, 101, 108, 100, 115, 34, 58, 91, 123, 34, 115, 111, 117, 114, 99, 101, 34, 58] : LB) ++ Lib.itoa y ++ ([44, 34, 116, 114, 97, 110, 115, 34, 58, 49, 44, 34, 112, 97, 114, 97, 109, 34, 58, 55, 125, 93, 125, 125] : LB)) ++ [93] := by
  have e : oneJ (rowT4 x y z c) = oneJ (rowT4 x y z c) := rfl
  unfold oneJ rowT4
  simp only [lget, toI, toS, toR]
  unfold onePs
  rw [show ieq (4 : Int) 0 = false from rfl, cond_false]
  rw [show ieq (4 : Int) 1 = false from rfl, cond_false]
  rw [show ieq (4 : Int) 2 = false from rfl, cond_false]
  rw [show ieq (4 : Int) 3 = false from rfl, cond_false]
  rw [show ieq (4 : Int) 4 = true from rfl, cond_true]
  simp [putP, render, items, members, objJ, lget, ldrop, q_add, q_path, q_rows, q_spec, q_part, q_stats, q_col, q_nulls, q_min, q_max, q_remove, q_mark, q_file, q_schema, q_id, q_next, q_columns, q_name, q_kind, q_fields, q_source, q_trans, q_param, q_txn, q_info, q_client, q_seq, q_op, q_time, q_q, q_p, q_m, q_nl, qn_data, qn_f, qn_t, itoa0, itoa1, itoa2, itoa7, sadd, colJ, colPs, fieldJ, fieldPs, statJ, statPs, valJ, scalarJ, ieq, toI, toS, toB, fbt]
theorem mayT5 (x y z c : Int) (hx0 : 0 ≤ x) (hx1 : x ≤ 1023) (hy0 : 1 ≤ y) (hy1 : y ≤ 1024) (hc0 : 0 ≤ c) (hc1 : c ≤ 7) : mayRow (rowT5 x y z c) = true := by
  have ix : intOK x = true := intOK_in (by omega) (by omega)
  have hc : keyB (sadd [116] (Lib.itoa x)) = true := key_num _ (by decide) (by simp) (by simp) x ix
  unfold mayRow rowT5
  simp only [lget, toI, toS, toR]
  unfold mayA
  rw [show ieq (5 : Int) 0 = false from rfl, cond_false]
  rw [show ieq (5 : Int) 1 = false from rfl, cond_false]
  rw [show ieq (5 : Int) 2 = false from rfl, cond_false]
  rw [show ieq (5 : Int) 3 = false from rfl, cond_false]
  rw [show ieq (5 : Int) 4 = false from rfl, cond_false]
  rw [show ieq (5 : Int) 5 = true from rfl, cond_true, hc, cond_true]
  simp [bareB]
theorem putT5 (x y z c : Int) (ix : intOK x = true) (iy : intOK y = true) (iz : intOK z = true) (ic : intOK c = true) : putP [oneJ (rowT5 x y z c)] = [91] ++ (([123, 34, 116, 120, 110, 34, 58, 34, 116] : LB) ++ Lib.itoa x ++ ([34, 125] : LB)) ++ [93] := by
  have e : oneJ (rowT5 x y z c) = oneJ (rowT5 x y z c) := rfl
  unfold oneJ rowT5
  simp only [lget, toI, toS, toR]
  unfold onePs
  rw [show ieq (5 : Int) 0 = false from rfl, cond_false]
  rw [show ieq (5 : Int) 1 = false from rfl, cond_false]
  rw [show ieq (5 : Int) 2 = false from rfl, cond_false]
  rw [show ieq (5 : Int) 3 = false from rfl, cond_false]
  rw [show ieq (5 : Int) 4 = false from rfl, cond_false]
  rw [show ieq (5 : Int) 5 = true from rfl, cond_true]
  simp [putP, render, items, members, objJ, lget, ldrop, q_add, q_path, q_rows, q_spec, q_part, q_stats, q_col, q_nulls, q_min, q_max, q_remove, q_mark, q_file, q_schema, q_id, q_next, q_columns, q_name, q_kind, q_fields, q_source, q_trans, q_param, q_txn, q_info, q_client, q_seq, q_op, q_time, q_q, q_p, q_m, q_nl, qn_data, qn_f, qn_t, itoa0, itoa1, itoa2, itoa7, sadd, colJ, colPs, fieldJ, fieldPs, statJ, statPs, valJ, scalarJ, ieq, toI, toS, toB, fbt]
theorem mayT6 (x y z c : Int) (hx0 : 0 ≤ x) (hx1 : x ≤ 1023) (hy0 : 1 ≤ y) (hy1 : y ≤ 1024) (hc0 : 0 ≤ c) (hc1 : c ≤ 7) : mayRow (rowT6 x y z c) = true := by
  have ix : intOK x = true := intOK_in (by omega) (by omega)
  have hc : fileB [112] y 0 [[.i .i64 0, .i .i64 0, .b false, .s []], [.i .i64 3, .i .i64 0, .b false, .s [10]]] [[.i .i64 2, .i .i64 0, .i .i64 1, .i .i64 z, .b false, .s [], .i .i64 2, .i .i64 0, .b true, .s []]] = true := by
    have h1 : keyB [112] = true := by kernel_rfl
    have h2 : inB y 4096 = true := (inB_iff _ _).2 ⟨by omega, by omega⟩
    have h3 : inB 0 2147483647 = true := rfl
    have h4 : ([[.i .i64 0, .i .i64 0, .b false, .s []], [.i .i64 3, .i .i64 0, .b false, .s [10]]] : LR).all valRow = true := by kernel_rfl
    have h5 : inB 0 y = true := (inB_iff _ _).2 ⟨by omega, by omega⟩
    have h6 : valueB 1 z false [] = true := by
      have : ieq z z = true := (ieq_iff _ _).2 rfl
      show (bif kind0B 1 then (bif Bool.and (ieq 1 1) (Bool.and (ieq z z) (Bool.and (beqB false false) (Bool.and (seq [] []) true))) then (bif ile (slen []) 64 then validP [] else false) else false) else false) = true
      rw [this]; kernel_rfl
    have h7 : valueB 2 0 true [] = true := by kernel_rfl
    have h8 : ile 2 0 = false := rfl
    simp only [fileB, h1, h2, h3, h4, cond_true, statsB, lget, toI, toB, toS, h5, h6, h7, h8, cond_false]
    rfl
  unfold mayRow rowT6
  simp only [lget, toI, toS, toR]
  unfold mayA
  rw [show ieq (0 : Int) 0 = true from rfl, cond_true, hc, cond_true]
  simp [bareB]
theorem putT6 (x y z c : Int) (ix : intOK x = true) (iy : intOK y = true) (iz : intOK z = true) (ic : intOK c = true) : putP [oneJ (rowT6 x y z c)] = [91] ++ (([123, 34, 97, 100, 100, 34, 58, 123, 34, 112, 97, 116, 104, 34, 58, 34, 112, 34, 44, 34, 114, 111, 119, 115, 34, 58] : LB) ++ Lib.itoa y ++ ([44, 34, 115, 112, 101, 99, 34, 58, 48, 44, 34, 112, 97, 114, 116, 34, 58, 91, 110, 117, 108, 108, 44, 34, 92, 110, 34, 93, 44, 34, 115, 116, 97, 116, 115, 34, 58, 91, 123, 34, 99, 111, 108, 34, 58, 50, 44, 34, 110, 117, 108, 108, 115, 34, 58, 48, 44, 34, 109, 105, 110, 34, 58] : LB) ++ Lib.itoa z ++ ([44, 34, 109, 97, 120, 34, 58, 116, 114, 117, 101, 125, 93, 125, 125] : LB)) ++ [93] := by
  have e : oneJ (rowT6 x y z c) = oneJ (rowT6 x y z c) := rfl
  unfold oneJ rowT6
  simp only [lget, toI, toS, toR]
  unfold onePs
  rw [show ieq (0 : Int) 0 = true from rfl, cond_true]
  simp [putP, render, items, members, objJ, lget, ldrop, q_add, q_path, q_rows, q_spec, q_part, q_stats, q_col, q_nulls, q_min, q_max, q_remove, q_mark, q_file, q_schema, q_id, q_next, q_columns, q_name, q_kind, q_fields, q_source, q_trans, q_param, q_txn, q_info, q_client, q_seq, q_op, q_time, q_q, q_p, q_m, q_nl, qn_data, qn_f, qn_t, itoa0, itoa1, itoa2, itoa7, sadd, colJ, colPs, fieldJ, fieldPs, statJ, statPs, valJ, scalarJ, ieq, toI, toS, toB, fbt]
end Go.AI

/-
  PLAIN LAW: ActionTexts, whole.
-/
set_option maxRecDepth 100000
set_option linter.unusedVariables false
set_option linter.unusedSimpArgs false
namespace Go.AI
open Go.Proofs
theorem awakeT {α : Type} (K : Bool → Option α) : f18a 300 K = K true := by kernel_rfl
theorem schT {α : Type} (K : LR → Int → Int → Option α) : f19a 300 [[.s [113]]] [[.i .i64 2]] K = K [[.i .i64 1, .s [113], .i .i64 2]] 2 0 := by kernel_rfl
theorem wand_bd (a : Int) (m : Nat) (hm : m < 9223372036854775808) : 0 ≤ wand .i64 a (m : Int) ∧ wand .i64 a (m : Int) ≤ m := by
  have h : ((BitVec.ofInt IntKind.i64.bits a &&& BitVec.ofInt IntKind.i64.bits (m : Int)).toNat) ≤ m := by
    rw [BitVec.toNat_and]
    refine Nat.le_trans Nat.and_le_right ?_
    rw [BitVec.toNat_ofInt]
    have : (2 ^ IntKind.i64.bits : Nat) = 18446744073709551616 := by decide
    rw [this]; omega
  unfold wand
  generalize ((BitVec.ofInt IntKind.i64.bits a &&& BitVec.ofInt IntKind.i64.bits (m : Int)).toNat) = q at h ⊢
  simp only [IntKind.wrap, IntKind.signed, IntKind.bits]
  simp
  omega
theorem wcv7 (a : Int) : ∃ m : Nat, m < 7 ∧ wcv .i64 (wrem (wcv .u64 a) 7) = (m : Int) := by
  have h0 : 0 ≤ wcv .u64 a := by simp only [wcv, IntKind.wrap, IntKind.signed, IntKind.bits]; exact Int.emod_nonneg _ (by decide)
  have h1 := Int.tmod_lt_of_pos (wcv .u64 a) (show (0 : Int) < 7 by decide)
  have h2 := Int.tmod_nonneg (7 : Int) h0
  refine ⟨((wcv .u64 a).tmod 7).toNat, by omega, ?_⟩
  have e : ∀ q : Int, 0 ≤ q → q < 7 → wcv .i64 q = q := fun q q0 q1 => by
    have := wadd_in (a := q) (c := 0) (by omega) (by omega)
    simpa [wadd, wcv] using this
  rw [show wrem (wcv .u64 a) 7 = (wcv .u64 a).tmod 7 from rfl, e _ h2 h1]
  exact (Int.toNat_of_nonneg h2).symm
theorem sr {a c : LB} (h : a.length + c.length ≤ 1000) : sroom a c = true := Nat.ble_eq_true_of_le (by omega)
theorem put_nil : putT [] = [91, 93] ∧ putN [] = 0 := by
  have hp : putP [] = [91, 93] := by simp [putP, render, items]
  have : putOK [] = true := by unfold putOK; simp [hp]
  unfold putT putN
  rw [this]
  exact ⟨by simpa using hp, rfl⟩
theorem rs0 {a b c d e f g : List AV} : rsub [a, b, c, d, e, f, g] 0 1 = [a] := rfl
theorem rg0 {a b c d e f g : List AV} : rget [a, b, c, d, e, f, g] 0 = a := rfl
theorem wa0 : wadd .i64 0 1 = 1 := rfl
theorem la0 : ile 0 0 = true := rfl
theorem lb0 : ile 0 1 = true := rfl
theorem lc0 : ile 1 7 = true := rfl
theorem ld0 : ilt 0 7 = true := rfl
theorem rs1 {a b c d e f g : List AV} : rsub [a, b, c, d, e, f, g] 1 2 = [b] := rfl
theorem rg1 {a b c d e f g : List AV} : rget [a, b, c, d, e, f, g] 1 = b := rfl
theorem wa1 : wadd .i64 1 1 = 2 := rfl
theorem la1 : ile 0 1 = true := rfl
theorem lb1 : ile 1 2 = true := rfl
theorem lc1 : ile 2 7 = true := rfl
theorem ld1 : ilt 1 7 = true := rfl
theorem rs2 {a b c d e f g : List AV} : rsub [a, b, c, d, e, f, g] 2 3 = [c] := rfl
theorem rg2 {a b c d e f g : List AV} : rget [a, b, c, d, e, f, g] 2 = c := rfl
theorem wa2 : wadd .i64 2 1 = 3 := rfl
theorem la2 : ile 0 2 = true := rfl
theorem lb2 : ile 2 3 = true := rfl
theorem lc2 : ile 3 7 = true := rfl
theorem ld2 : ilt 2 7 = true := rfl
theorem rs3 {a b c d e f g : List AV} : rsub [a, b, c, d, e, f, g] 3 4 = [d] := rfl
theorem rg3 {a b c d e f g : List AV} : rget [a, b, c, d, e, f, g] 3 = d := rfl
theorem wa3 : wadd .i64 3 1 = 4 := rfl
theorem la3 : ile 0 3 = true := rfl
theorem lb3 : ile 3 4 = true := rfl
theorem lc3 : ile 4 7 = true := rfl
theorem ld3 : ilt 3 7 = true := rfl
theorem rs4 {a b c d e f g : List AV} : rsub [a, b, c, d, e, f, g] 4 5 = [e] := rfl
theorem rg4 {a b c d e f g : List AV} : rget [a, b, c, d, e, f, g] 4 = e := rfl
theorem wa4 : wadd .i64 4 1 = 5 := rfl
theorem la4 : ile 0 4 = true := rfl
theorem lb4 : ile 4 5 = true := rfl
theorem lc4 : ile 5 7 = true := rfl
theorem ld4 : ilt 4 7 = true := rfl
theorem rs5 {a b c d e f g : List AV} : rsub [a, b, c, d, e, f, g] 5 6 = [f] := rfl
theorem rg5 {a b c d e f g : List AV} : rget [a, b, c, d, e, f, g] 5 = f := rfl
theorem wa5 : wadd .i64 5 1 = 6 := rfl
theorem la5 : ile 0 5 = true := rfl
theorem lb5 : ile 5 6 = true := rfl
theorem lc5 : ile 6 7 = true := rfl
theorem ld5 : ilt 5 7 = true := rfl
theorem rs6 {a b c d e f g : List AV} : rsub [a, b, c, d, e, f, g] 6 7 = [g] := rfl
theorem rg6 {a b c d e f g : List AV} : rget [a, b, c, d, e, f, g] 6 = g := rfl
theorem wa6 : wadd .i64 6 1 = 7 := rfl
theorem la6 : ile 0 6 = true := rfl
theorem lb6 : ile 6 7 = true := rfl
theorem lc6 : ile 7 7 = true := rfl
theorem ld6 : ilt 6 7 = true := rfl
theorem wfT (r : List AV) (h4 : ∀ v ∈ toR (lget r 4 .unk), intOK (toI (lget v 1 .unk)) = true) (h5 : ∀ v ∈ toR (lget r 5 .unk), intOK (toI (lget v 0 .unk)) = true ∧ intOK (toI (lget v 3 .unk)) = true ∧ intOK (toI (lget v 7 .unk)) = true) (h : intOK (toI (lget r 19 .unk)) = true) : ∀ q ∈ [r], wfRow q := fun q hq => by
  simp at hq; subst hq; exact ⟨h4, h5, h⟩
theorem in0 : intOK 0 = true := rfl
theorem in2 : intOK 2 = true := rfl
theorem T5_true {α : Type} (c18 : (Bool → Option α) → Option α) (c19 : LR → LR → (LR → Int → Int → Option α) → Option α) (c20 : Int → (LB → Option α) → Option α) (c11 : LR → (LB → Int → Option α) → Option α) (c15 : Int → Option α → Option α)
    (h18 : ∀ K, c18 K = K true) (h19 : ∀ K, c19 [[.s [113]]] [[.i .i64 2]] K = K [[.i .i64 1, .s [113], .i .i64 2]] 2 0) (h20 : ∀ x, intOK x = true → ∀ K, c20 x K = K (Lib.itoa x)) (h11 : ∀ x : LR, x.length ≤ 7 → (∀ r ∈ x, wfRow r) → ∀ K, c11 x K = K (putT x) (putN x)) (h15 : ∀ x K, c15 x K = K)
    (x0 x1 x2 : Int) (K : Bool → Option α) : T5a c18 c19 c20 c11 c15 K x0 x1 x2 = K true := by
  unfold T5a
  rw [h18]
  simp only [Bool.not_true, cond_false]
  rw [h19]
  simp only [h5a_0, h5a_1, h5a_2, h5a_3, h5a_4, h5a_5, h5a_6, h5a_7, h5a_8, h5a_9]
  obtain ⟨hx0, hx1⟩ := wand_bd x0 1023 (by decide)
  have hyb := wand_bd x1 1023 (by decide)
  obtain ⟨hc0, hc1⟩ := wand_bd (wand .i64 x0 (1023 : Nat)) 7 (by decide)
  have hy : wadd .i64 1 (wand .i64 x1 (1023 : Nat)) = 1 + wand .i64 x1 (1023 : Nat) := wadd_in (by omega) (by omega)
  have hz : wneg .i64 (wand .i64 x0 (1023 : Nat)) = - wand .i64 x0 (1023 : Nat) := by
    simp only [wneg]
    have := wsub_in (a := 0) (c := wand .i64 x0 (1023 : Nat)) (by omega) (by omega)
    simp only [wsub] at this
    rw [this]; omega
  obtain ⟨m, hm, hW⟩ := wcv7 x2
  simp only [show ((1023 : Nat) : Int) = 1023 from rfl, show ((7 : Nat) : Int) = 7 from rfl] at hx0 hx1 hyb hc0 hc1 hy hz
  rw [hy, hz, hW]
  generalize wand .i64 (wand .i64 x0 1023) 7 = c at hc0 hc1 ⊢
  generalize wand .i64 x0 1023 = x at hx0 hx1 ⊢
  have hy0 : 1 ≤ 1 + wand .i64 x1 1023 := by omega
  have hy1 : 1 + wand .i64 x1 1023 ≤ 1024 := by omega
  generalize 1 + wand .i64 x1 1023 = y at hy0 hy1 ⊢
  have ix : intOK x = true := intOK_in (by omega) (by omega)
  have iy : intOK y = true := intOK_in (by omega) (by omega)
  have ic : intOK c = true := intOK_in (by omega) (by omega)
  have iz : intOK (-x) = true := intOK_in (by omega) (by omega)
  have lx := itoa_len x ix
  have ly := itoa_len y iy
  have lc := itoa_len c ic
  have lz := itoa_len (-x) iz
  simp only [h20 x ix, h20 y iy, h20 c ic, h20 (-x) iz]
  simp (disch := (simp only [sadd, List.length_append, List.length_cons, List.length_nil]; omega)) only [sr, cond_true]
  rcases (show m = 0 ∨ m = 1 ∨ m = 2 ∨ m = 3 ∨ m = 4 ∨ m = 5 ∨ m = 6 by omega) with rfl | rfl | rfl | rfl | rfl | rfl | rfl
  · have hp := put_of (mayT0 x y (-x) c hx0 hx1 hy0 hy1 hc0 hc1) (putT0 x y (-x) c ix iy iz ic) (by simp; try omega)
    have h := h11 [rowT0 x y (-x) c] (by simp) (wfT _ (by intro v hv; simp [rowT0, lget, toR] at hv) (by intro v hv; simp [rowT0, lget, toR] at hv) ix)
    rw [hp.1, hp.2] at h
    unfold rowT0 at h
    have h0 := h11 [] (by simp) (fun r hr => by simp at hr)
    rw [put_nil.1, put_nil.2] at h0
    have e0 : ieq 0 0 = true := rfl
    simp only [show ((0 : Nat) : Int) = 0 from rfl, la0, lb0, lc0, ld0, wa0, rs0, rg0, cond_true, lget, toS]
    rw [h, h0, h15]
    simp only [e0, cond_true]
    simp (disch := (simp only [sadd, List.length_append, List.length_cons, List.length_nil]; omega)) only [sr, cond_true]
    rw [(seq_iff _ _).2 (by simp [sadd]), cond_true, h15, (seq_iff _ _).2 rfl]
  · have hp := put_of (mayT1 x y (-x) c hx0 hx1 hy0 hy1 hc0 hc1) (putT1 x y (-x) c ix iy iz ic) (by simp; try omega)
    have h := h11 [rowT1 x y (-x) c] (by simp) (wfT _ (by intro v hv; simp [rowT1, lget, toR] at hv) (by intro v hv; simp [rowT1, lget, toR] at hv) in0)
    rw [hp.1, hp.2] at h
    unfold rowT1 at h
    have h0 := h11 [] (by simp) (fun r hr => by simp at hr)
    rw [put_nil.1, put_nil.2] at h0
    have e0 : ieq 0 0 = true := rfl
    simp only [show ((1 : Nat) : Int) = 1 from rfl, la1, lb1, lc1, ld1, wa1, rs1, rg1, cond_true, lget, toS]
    rw [h, h0, h15]
    simp only [e0, cond_true]
    simp (disch := (simp only [sadd, List.length_append, List.length_cons, List.length_nil]; omega)) only [sr, cond_true]
    rw [(seq_iff _ _).2 (by simp [sadd]), cond_true, h15, (seq_iff _ _).2 rfl]
  · have hp := put_of (mayT2 x y (-x) c hx0 hx1 hy0 hy1 hc0 hc1) (putT2 x y (-x) c ix iy iz ic) (by simp; try omega)
    have h := h11 [rowT2 x y (-x) c] (by simp) (wfT _ (by intro v hv; simp [rowT2, lget, toR] at hv) (by intro v hv; simp [rowT2, lget, toR] at hv) in0)
    rw [hp.1, hp.2] at h
    unfold rowT2 at h
    have h0 := h11 [] (by simp) (fun r hr => by simp at hr)
    rw [put_nil.1, put_nil.2] at h0
    have e0 : ieq 0 0 = true := rfl
    simp only [show ((2 : Nat) : Int) = 2 from rfl, la2, lb2, lc2, ld2, wa2, rs2, rg2, cond_true, lget, toS]
    rw [h, h0, h15]
    simp only [e0, cond_true]
    simp (disch := (simp only [sadd, List.length_append, List.length_cons, List.length_nil]; omega)) only [sr, cond_true]
    rw [(seq_iff _ _).2 (by simp [sadd]), cond_true, h15, (seq_iff _ _).2 rfl]
  · have hp := put_of (mayT3 x y (-x) c hx0 hx1 hy0 hy1 hc0 hc1) (putT3 x y (-x) c ix iy iz ic) (by simp; try omega)
    have h := h11 [rowT3 x y (-x) c] (by simp) (wfT _ (by intro v hv; simp [rowT3, lget, toR] at hv) (by intro v hv; simp [rowT3, lget, toR] at hv) in0)
    rw [hp.1, hp.2] at h
    unfold rowT3 at h
    have h0 := h11 [] (by simp) (fun r hr => by simp at hr)
    rw [put_nil.1, put_nil.2] at h0
    have e0 : ieq 0 0 = true := rfl
    simp only [show ((3 : Nat) : Int) = 3 from rfl, la3, lb3, lc3, ld3, wa3, rs3, rg3, cond_true, lget, toS]
    rw [h, h0, h15]
    simp only [e0, cond_true]
    simp (disch := (simp only [sadd, List.length_append, List.length_cons, List.length_nil]; omega)) only [sr, cond_true]
    rw [(seq_iff _ _).2 (by simp [sadd]), cond_true, h15, (seq_iff _ _).2 rfl]
  · have hp := put_of (mayT4 x y (-x) c hx0 hx1 hy0 hy1 hc0 hc1) (putT4 x y (-x) c ix iy iz ic) (by simp; try omega)
    have h := h11 [rowT4 x y (-x) c] (by simp) (wfT _ (by intro v hv; simp [rowT4, lget, toR] at hv) (by intro v hv; simp [rowT4, lget, toR] at hv) in0)
    rw [hp.1, hp.2] at h
    unfold rowT4 at h
    have h0 := h11 [] (by simp) (fun r hr => by simp at hr)
    rw [put_nil.1, put_nil.2] at h0
    have e0 : ieq 0 0 = true := rfl
    simp only [show ((4 : Nat) : Int) = 4 from rfl, la4, lb4, lc4, ld4, wa4, rs4, rg4, cond_true, lget, toS]
    rw [h, h0, h15]
    simp only [e0, cond_true]
    simp (disch := (simp only [sadd, List.length_append, List.length_cons, List.length_nil]; omega)) only [sr, cond_true]
    rw [(seq_iff _ _).2 (by simp [sadd]), cond_true, h15, (seq_iff _ _).2 rfl]
  · have hp := put_of (mayT5 x y (-x) c hx0 hx1 hy0 hy1 hc0 hc1) (putT5 x y (-x) c ix iy iz ic) (by simp; try omega)
    have h := h11 [rowT5 x y (-x) c] (by simp) (wfT _ (by intro v hv; simp [rowT5, lget, toR] at hv) (by intro v hv; simp [rowT5, lget, toR] at hv) in0)
    rw [hp.1, hp.2] at h
    unfold rowT5 at h
    have h0 := h11 [] (by simp) (fun r hr => by simp at hr)
    rw [put_nil.1, put_nil.2] at h0
    have e0 : ieq 0 0 = true := rfl
    simp only [show ((5 : Nat) : Int) = 5 from rfl, la5, lb5, lc5, ld5, wa5, rs5, rg5, cond_true, lget, toS]
    rw [h, h0, h15]
    simp only [e0, cond_true]
    simp (disch := (simp only [sadd, List.length_append, List.length_cons, List.length_nil]; omega)) only [sr, cond_true]
    rw [(seq_iff _ _).2 (by simp [sadd]), cond_true, h15, (seq_iff _ _).2 rfl]
  · have hp := put_of (mayT6 x y (-x) c hx0 hx1 hy0 hy1 hc0 hc1) (putT6 x y (-x) c ix iy iz ic) (by simp; try omega)
    have h := h11 [rowT6 x y (-x) c] (by simp) (wfT _ (by intro v hv; simp [rowT6, lget, toR] at hv; rcases hv with rfl | rfl <;> exact in0) (by intro v hv; simp [rowT6, lget, toR] at hv; rw [hv]; exact ⟨in2, iz, in0⟩) in0)
    rw [hp.1, hp.2] at h
    unfold rowT6 at h
    have h0 := h11 [] (by simp) (fun r hr => by simp at hr)
    rw [put_nil.1, put_nil.2] at h0
    have e0 : ieq 0 0 = true := rfl
    simp only [show ((6 : Nat) : Int) = 6 from rfl, la6, lb6, lc6, ld6, wa6, rs6, rg6, cond_true, lget, toS]
    rw [h, h0, h15]
    simp only [e0, cond_true]
    simp (disch := (simp only [sadd, List.length_append, List.length_cons, List.length_nil]; omega)) only [sr, cond_true]
    rw [(seq_iff _ _).2 (by simp [sadd]), cond_true, h15, (seq_iff _ _).2 rfl]
theorem texts_true {α : Type} (x0 x1 x2 : Int) (K : Bool → Option α) : f5a 300 x0 x1 x2 K = K true :=
  T5_true (f18a 300) (f19a 300) (f20a 300) (f11a 300) (f15a 300) awakeT schT (fun x hx K => by
    simp only [intOK, Bool.and_eq_true, decide_eq_true_eq] at hx
    exact f20 300 (by omega) x hx.1 hx.2 K) (fun x hl hw K => f11 300 (by omega) (by omega) x (by omega) hw K) (fun x K => rfl) x0 x1 x2 K
end Go.AI

namespace Go.Proofs.YtmkgoiimkfppdaaGreatDoor
open Go.ChangeShapes Go.WideShapes Go.ChangeAt Go.RowKit Go.AI
set_option maxRecDepth 100000
set_option linter.unusedVariables false

theorem own : ownKnob Tryz.prog.godebug = none := by kernel_rfl
theorem gPow : Tryz.prog.globalNamed "internal/strconv.uint64pow10" = some 3 := by kernel_rfl
theorem gPowType : (Tryz.prog.globals[3]?).map (·.type) = some 207 := by kernel_rfl
theorem cells207 : Tryz.prog.cellsOf 207 = 20 := by kernel_rfl
theorem cellsU64 : Tryz.prog.cellsOf 98 = 1 := by kernel_rfl

abbrev Lyd : List (String × DataW Unit) := Rows.actionTextsRow.laid
theorem glob_of_laid {W : World} (h : laidMetH Tryz.prog Lyd W) : GlobR Tryz.prog (startOf W) Gl := by
  have h1 := (laidMetH_iff.1 h).1
  have h2 := h1.filter fun x => x.1 == "internal/strconv.uint64pow10"
  have e : ((Lyd.filter fun x => x.2.handleName?.isNone).filter fun x => x.1 == "internal/strconv.uint64pow10") = [("internal/strconv.uint64pow10", Lib.tabData .u64 Lib.pow10Tab)] := by kernel_rfl
  rw [e] at h2
  have h3 : Lib.TabIs Tryz.prog W "internal/strconv.uint64pow10" .u64 Lib.pow10Tab := Lib.tabIs_of_head gPow gPowType Tryz.underlying207 Tryz.underlying98 cellsU64 cells207 h2
  refine globR_start fun g v hg => ?_
  unfold Gl at hg
  cases hb : Nat.beq g 3 with
  | false => rw [hb] at hg; cases hg
  | true =>
    rw [hb] at hg
    obtain rfl := Nat.eq_of_beq_eq_true hb
    cases hg
    refine ⟨_, _, rfl, by kernel_rfl, fun k hk => ?_, ?_⟩
    · have hk' : k < 20 := hk
      have : ∀ k : Fin 20, isData (lget (Lib.pow10Tab.map (AV.i .u64)) k.1 .unk) = true := by decide +kernel
      exact this ⟨k, hk'⟩
    · unfold Lib.TabIs World.var? at h3
      rw [gPow] at h3
      simp only [Option.bind_some] at h3
      split at h3
      · rename_i cs ty fr hc
        cases h3
        exact ⟨ty, fr, by rw [hc]; rfl⟩
      · cases h3
section
variable {H : Type} {enc : TypeId × Value → H} {P : Program}
/-- a call that wrote nothing of what was there: what it leaves reads as it read -/
theorem post_of_below {f : Func} {s : ChangeSpec} {apart fresh handsOn again : Bool} {W W' : World} {args : Array Value} {v : Value} {ds gs : List (DataW H)} {before pa pv : List MemPlace}
    (hW : DataW.Whole enc P f.params.toList s.vars apart W args.toList ds gs before)
    (hres : ∀ (b : Nat) (sp : Nat → Bool) (hd : Bool), DataW.TrodAll enc P W' b sp hd f.resultTypes.toList (v.resultList f.resultTypes.size) (s.fn H (ds ++ gs)).results [])
    (hargs : ∀ sp : Nat → Bool, (∀ p ∈ before, sp p.block = true) → DataW.TrodAll enc P W' 0 sp true f.params.toList args.toList (s.fn H (ds ++ gs)).args pa)
    (hvars : ∀ sp : Nat → Bool, (∀ p ∈ before, sp p.block = true) → DataW.TrodVars enc P W' sp s.vars (s.fn H (ds ++ gs)).vars pv)
    (hps : before = pa ++ pv) (hb : Below W.heap.size W W')
    (hok : ∀ (j : Nat) (t : TypeId) (r : Value), f.resultTypes[j]? = some t → (v.resultList f.resultTypes.size)[j]? = some r → Value.okWide P W' .any 0 t r) :
    s.post enc P f apart fresh handsOn again W args v W' := by
  have hold : ∀ p ∈ before, (fun b => decide (b < W.heap.size)) p.block = true := fun p hp => by simpa using hW.lt p hp
  have hlt : ∀ p ∈ before, p.block < W.heap.size := fun p hp => hW.lt p hp
  refine ⟨ds, gs, before, [], pa, pv, hW, hres _ _ _, hargs _ hold, hvars _ hold, World.keptBut_mono (fun p hp => ⟨hp, ?_⟩) (hb.frame (· ∈ before)), fun _ => ?_⟩
  · rw [hps, List.mem_append] at hp
    exact Or.inr hp
  · obtain ⟨_, _, _, _, _, hz, hn⟩ := hW
    refine ⟨hok, _, _, ([] ++ pa) ++ pv, ⟨[] ++ pa, pv, trodAll_append (hargs _ (fun _ _ => rfl)) (hres _ _ _), hvars _ (fun _ _ => rfl), rfl, ?_, ?_⟩, ?_⟩
    · intro b off hp
      have hp' : MemPlace.cell b off ∈ before := by rw [hps]; simpa using hp
      rw [hb.frozen (hlt _ hp')]
      exact hz b off hp'
    · intro ha
      have := hn ha
      rw [hps] at this
      simpa using this
    · intro p hp _
      rw [hps]
      simpa using hp
end
theorem walk5 (w : World) (hL : laidMetH Tryz.prog Lyd w) (a b c : Int) :
    Calls Tryz.prog 5 #[.int .i64 a, .int .i64 b, .int .i64 c] w (fun e w' => e = .returned (.bool true) ∧ Below w.heap.size w w') :=
  law_calls (ok5a 300) (args := [.i .i64 a, .i .i64 b, .i .i64 c]) (F := fun K => f5a 300 a b c (fun y0 => K (.ok (.b y0) []))) rfl (texts_true a b c _) Tryz.func5 (by kernel_rfl) (glob_of_laid hL) (vs := [.int .i64 a, .int .i64 b, .int .i64 c]) ⟨CR.int _ _, CR.int _ _, CR.int _ _, trivial⟩

theorem contract (H : Type) (enc : TypeId × Value → H) (W : World) (base : Nat) (args : Array Value) (ds gs : List (DataW H)) (before : List MemPlace)
    (hval : ∀ (j : Nat) t v, Tryz.f5.params[j]? = some t → args[j]? = some v → Value.okWide Tryz.prog W .any base t v)
    (hW : DataW.Whole enc Tryz.prog Tryz.f5.params.toList Rows.actionTextsSpec.vars false W args.toList ds gs before) (hL : laidMetH Tryz.prog Rows.actionTextsRow.laid W) :
    Calls Tryz.prog 5 args W fun e W' => ∃ v, e = .returned v ∧ Rows.actionTextsSpec.post enc Tryz.prog Tryz.f5 false true false false W args v W' := by
  have hW' := hW
  obtain ⟨p, q, hA0, hV, rfl, hfz, hnd⟩ := hW
  have hA : DataW.TrodAll enc Tryz.prog W 0 (fun _ => true) true Tryz.f5.params.toList args.toList ds p := hA0
  rw [Tryz.params5] at hA hval
  obtain ⟨v0, vs0, d0, ds0, p0, q0, hargs, rfl, rfl, h0, r0⟩ := trodAll_cons hA
  obtain ⟨v1, vs1, d1, ds1, p1, q1, rfl, rfl, rfl, h1, r1⟩ := trodAll_cons r0
  obtain ⟨v2, vs2, d2, ds2, p2, q2, rfl, rfl, rfl, h2, r2⟩ := trodAll_cons r1
  obtain ⟨rfl, rfl, rfl⟩ := trodAll_nil r2
  obtain rfl : args = #[v0, v1, v2] := by cases args; simp_all
  obtain ⟨rfl, rfl⟩ := trodVars_none hV
  obtain ⟨a, rfl, rfl, rfl, wa⟩ := open_int Tryz.underlying3 (hval 0 3 v0 rfl rfl) h0
  obtain ⟨b, rfl, rfl, rfl, wb⟩ := open_int Tryz.underlying3 (hval 1 3 v1 rfl rfl) h1
  obtain ⟨c, rfl, rfl, rfl, wc⟩ := open_int Tryz.underlying3 (hval 2 3 v2 rfl rfl) h2
  clear hA0
  simp only [List.append_nil] at hW'
  refine (walk5 W hL a b c).mono fun e W' ⟨he, hg⟩ => ?_
  subst he
  exact ⟨_, rfl, post_of_below (pa := []) (pv := []) hW' (fun _ _ _ => trodAll_cons_mk (shut_bool Tryz.underlying4 _) trodAll_mk0)
    (fun _ _ => trodAll_cons_mk (shut_int Tryz.underlying3 wa) (trodAll_cons_mk (shut_int Tryz.underlying3 wb) (trodAll_cons_mk (shut_int Tryz.underlying3 wc) trodAll_mk0))) (fun _ _ => rfl) rfl hg (ok_one (by kernel_rfl) rfl (okWide_bool_mk Tryz.underlying4 _))⟩

theorem lifted (os : Os) (started : os.Started) (H : Type) (enc : TypeId × Value → H) (F : Stop.Interp) :
    ReturnsInHanded {} Tryz.checked os 5 .any ((OpenSpec.ofChange Rows.actionTextsSpec).preRow enc Tryz.prog Tryz.f5 Rows.actionTextsRow.domain false Rows.actionTextsRow.laid) (((OpenSpec.ofChange Rows.actionTextsSpec).at F).post enc Tryz.prog Tryz.f5 false true false false) := by
  have hL : laidMetH Tryz.prog Rows.actionTextsRow.laid ((World.laidAll Tryz.prog os Rows.actionTextsRow.laid).forCall (fun _ _ => 0) ⟨#[], #[.int .i64 0, .int .i64 0, .int .i64 0], []⟩).memory := by
    rw [MakeChecks.laidMetH_plain _ _ _ (by kernel_rfl)]; exact laidMet_laidAll _ (by kernel_rfl) (by kernel_rfl)
  have hx : DataW.whole enc Tryz.prog ((World.laidAll Tryz.prog os Rows.actionTextsRow.laid).forCall (fun _ _ => 0) ⟨#[], #[.int .i64 0, .int .i64 0, .int .i64 0], []⟩).memory Tryz.f5.params.toList Rows.actionTextsSpec.vars false #[Value.int .i64 0, Value.int .i64 0, Value.int .i64 0].toList 8 = some ([.lit (.int .i64 0), .lit (.int .i64 0), .lit (.int .i64 0)], [], []) := by kernel_rfl
  refine returnsInHanded_of_row (C := Tryz.checked) (s := OpenSpec.ofChange Rows.actionTextsSpec) own started (by kernel_rfl) Tryz.func5
    (witness_row_at (enc := enc) (C := Tryz.checked) false (World.laidAll Tryz.prog os Rows.actionTextsRow.laid) #[.int .i64 0, .int .i64 0, .int .i64 0] (World.laidAll_os _ _ _) (by kernel_rfl) (by kernel_rfl) (by kernel_rfl)
      (OpenSpec.preRow_of_cond 8 hx (by kernel_rfl) (fun k hk => by cases hk) (by kernel_rfl) hL)) ?_
  intro W base args ds gs before hval hW _ _ _ hL _ _
  exact contract H enc W base args ds gs before hval hW hL

theorem said : Rows.ActionTextsSaid :=
  OpenClaim.holds_of_cond 5 Tryz.f5 rfl rfl rfl rfl rfl rfl rfl ⟨rfl, rfl, rfl, rfl, rfl⟩ rfl rfl rfl rfl rfl (by kernel_rfl) Tryz.func5 (by kernel_rfl)
    (of_decide_eq_true (by kernel_rfl)) (by unfold Func.isWrapper; first | (rw [if_pos (by decide +kernel)]; kernel_rfl) | (rw [if_neg (by decide +kernel)]; exact ⟨rfl, rfl⟩))
    (fun os started H enc _ F => by rw [OpenClaim.pre_eq_preRow]; exact lifted os started H enc F)

theorem plain (f : FuncId) (fn : Func) (hf : Tryz.pinned.checked.prog.funcNamed "boathouse/boathouselaw19.ActionTexts" = some f) (hfn : Tryz.pinned.checked.prog.funcs[f]? = some fn) :
    true = Tryz.pinned.checked.prog.looks [] ∧ ∀ (j : Nat) t, fn.params[j]? = some t → Tryz.pinned.checked.prog.wantsStandIn t = false := by
  obtain rfl : f = 5 := Option.some.inj ((show Tryz.prog.funcNamed "boathouse/boathouselaw19.ActionTexts" = some 5 by kernel_rfl).symm.trans hf) |>.symm
  obtain rfl : fn = Tryz.f5 := (Option.some.inj (Tryz.func5.symm.trans hfn)).symm
  refine ⟨by kernel_rfl, fun j t ht => ?_⟩
  rw [Tryz.params5] at ht
  obtain rfl : t = 3 := by simpa using Array.mem_of_getElem? ht
  exact (show Tryz.prog.wantsStandIn 3 = false by kernel_rfl)

/-- THE CARD -/
theorem card : Rows.ActionTextsCardSaid :=
  Claim7.holds_tied_plain_at .later [] _ _ _ _ said (fun _ h => by cases h) (by kernel_rfl) (fun _ h => by cases h) actionTexts_row_tie rfl ⟨rfl, rfl⟩ (by kernel_rfl) rfl plain (by kernel_rfl)
end Go.Proofs.YtmkgoiimkfppdaaGreatDoor
