/- ActionCuts of boathouse/action: for all a, cut, which the law's function returns true and leaves its arguments alone; no condition. The machine side: an abstract interpreter of the model's code, proved sound once, and the functions that it comes to, printed and checked; the plain side: the form check, the writer and the parser each exact for whatever they are handed, that what is written is read again and that no text that is taken goes on. -/
import Derived.Conc.MuLone
import Derived.Recover
import Derived.KernelRfl
import Derived.Shelf.Strings.Trim
import Derived.Shelf.Small.Utf8
import Derived.Shelf.Small.Strs
import Derived.Shelf.Small.Wraps
import Derived.Shelf.Strconv.Itoa0
import Derived.Shelf.Strconv.Itoa1
import Derived.Shelf.LaysM
import Derived.Shelf.Strconv.Itoa2
import Derived.Shelf.Strconv.Itoa3
import Derived.Shelf.Strings.Search1
import Derived.Shelf.Unicode.Decode
import Derived.Shelf.Strings.Runes
import Derived.Shelf.Strings.AsciiSet
import Derived.Shelf.Unicode.DecodeSlow
import Derived.Shelf.Unicode.DecodeAny
import Derived.Shelf.Unicode.DecodeLast
import Derived.Test.YtmkgoiimkfppdaaGreatDoorProg
import Derived.Shelf.Strings.SlTrimAscii
import Derived.WalkKit
import Derived.LoopN
import Derived.Lib.Hide
import Derived.Below
import Derived.Laws.IdiomStrings
import Derived.Laws.MakeOwn
import Derived.Laws.Entries
import Derived.Deep.Slices
import Derived.ChangeArms
import Derived.DataReads
import Derived.Test.YtmkgoiimkfppdaaGreatDoorCuB
/-
  CODE (3): the slots at a loop's head; all code. Nothing here is about one program.
-/
set_option linter.unusedVariables false
set_option linter.unusedSimpArgs false
namespace Go.AI

/-- what a slot's mark turns into -/
def slotSrc (new orig : List AV) (j : Nat) : Option TSrc :=
  match lget new j .unk with
  | .lst _ _ (.tk _ _) => match lget orig j .unk with
    | .lst e _ .nil => some (.nil e)
    | .lst _ _ (.tk k _) => some (.tk k)
    | _ => none
  | _ => none

section
variable {P : Program} {glob : Nat → Option AV} {ρ : FuncId → Fn} {F : Frm} {E : Env} {S : Start} {M : Mem} {cur : Cur} {U : Nat → Prop} {w : World} {B : Nat} {keep : Nat}

theorem forget_length (B : Nat) (cur : Cur) : ∀ (sl : List AV) (j : Nat) (seen : List Tok), (forget keep B cur j seen sl).length = sl.length
  | [], j, seen => rfl
  | v :: l, j, seen => by
    simp only [forget]
    cases has keep j
    · simp [forget_length B cur l]
    · cases belowV B (headV v) <;> simp [forget_length B cur l]
/-- one slot of what is kept -/
theorem forget_get (B : Nat) (cur : Cur) : ∀ (sl : List AV) (j : Nat) (seen : List Tok) (i : Nat), i < sl.length → ∃ seen', (∀ t ∈ seen, t ∈ seen') ∧
    (lget (forget keep B cur j seen sl) i .unk = .unk ∨ (belowV B (headV (lget sl i .unk)) = true ∧ lget (forget keep B cur j seen sl) i .unk = slotMark cur seen' (j + i) (headV (lget sl i .unk)))) ∧
    ∀ i', i' < i → lget (forget keep B cur j seen sl) i' .unk ≠ .unk → ∀ t ∈ tokOf (lget sl i' .unk), t ∈ seen'
  | [], j, seen, i, hi => by simp at hi
  | v :: l, j, seen, i, hi => by
    have gone : ∃ seen', (∀ t ∈ seen, t ∈ seen') ∧
        (lget (.unk :: forget keep B cur (j + 1) seen l) i .unk = .unk ∨ (belowV B (headV (lget (v :: l) i .unk)) = true ∧ lget (.unk :: forget keep B cur (j + 1) seen l) i .unk = slotMark cur seen' (j + i) (headV (lget (v :: l) i .unk)))) ∧
        ∀ i', i' < i → lget (.unk :: forget keep B cur (j + 1) seen l) i' .unk ≠ .unk → ∀ t ∈ tokOf (lget (v :: l) i' .unk), t ∈ seen' := by
      cases i with
      | zero => exact ⟨seen, fun _ h => h, .inl rfl, fun i' h => by omega⟩
      | succ i =>
        obtain ⟨s', h1, h2, h3⟩ := forget_get B cur l (j + 1) seen i (by simpa using hi)
        refine ⟨s', h1, ?_, fun i' hi' hne => ?_⟩
        · rw [show j + (i + 1) = j + 1 + i from by omega]; exact h2
        · cases i' with
          | zero => exact absurd rfl hne
          | succ i' => exact h3 i' (by omega) hne
    simp only [forget]
    cases hd : has keep j
    · exact gone
    · cases hb : belowV B (headV v)
      · exact gone
      · simp only [cond_true]
        cases i with
        | zero => exact ⟨seen, fun _ h => h, .inr ⟨hb, rfl⟩, fun i' h => by omega⟩
        | succ i =>
          obtain ⟨s', h1, h2, h3⟩ := forget_get B cur l (j + 1) (tokOf v ++ seen) i (by simpa using hi)
          refine ⟨s', fun t ht => h1 t (List.mem_append_right _ ht), ?_, fun i' hi' hne => ?_⟩
          · rw [show j + (i + 1) = j + 1 + i from by omega]; exact h2
          · cases i' with
            | zero => exact fun t ht => h1 t (List.mem_append_left _ ht)
            | succ i' => exact h3 i' (by omega) hne

theorem tmem_iff (k : Tok) : ∀ l : List Tok, tmem k l = true ↔ k ∈ l
  | [] => by simp [tmem]
  | a :: l => by
    simp only [tmem, List.mem_cons]
    by_cases h : a = k
    · subst h; simp
    · simp [h, tmem_iff k l, Ne.symm h]

/-- a slot that keeps a right had it, and it is current and a slot's -/
theorem slot_tk {sl : List AV} {j : Nat} {k : Tok} (h : slotSrc (forget keep B cur 0 [] sl) sl j = some (.tk k)) : ∃ (e : TypeId) (r : List (List AV)) (seen' : List Tok), lget sl j .unk = .lst e r (.tk k (cur k)) ∧ slotTok k = true ∧ k ∉ seen' ∧ lget (forget keep B cur 0 [] sl) j .unk ≠ .unk ∧
    ∀ i', i' < j → lget (forget keep B cur 0 [] sl) i' .unk ≠ .unk → ∀ t ∈ tokOf (lget sl i' .unk), t ∈ seen' := by
  unfold slotSrc at h
  split at h
  · rename_i e1 r1 k1 v1 hnew
    split at h
    · cases h
    · rename_i e r k2 ver hor
      cases h
      have hlt : j < sl.length := by
        rcases Nat.lt_or_ge j sl.length with h | h
        · exact h
        · rw [lget_eq, List.getD, List.getElem?_eq_none h] at hor; cases hor
      obtain ⟨s', _, h2, h3⟩ := forget_get (keep := keep) B cur sl 0 [] j hlt
      rcases h2 with h2 | ⟨_, h2⟩
      · rw [hnew] at h2; cases h2
      · rw [hnew, hor] at h2
        simp only [headV, slotMark] at h2
        cases hc : (slotTok k && Nat.beq (cur k) ver && !tmem k s')
        · rw [hc] at h2; cases h2
        · simp only [Bool.and_eq_true, Bool.not_eq_true'] at hc
          have hv := Nat.eq_of_beq_eq_true hc.1.2
          refine ⟨e, r, s', by rw [hor, hv], hc.1.1, fun hm => ?_, by rw [hnew]; simp, h3⟩
          rw [(tmem_iff k s').2 hm] at hc
          cases hc.2
    · cases h
  · cases h

theorem head_ok (hw : WR P E S M cur U w) {sl : List AV} {tmps : Array Value} (hs : SlR P E cur sl tmps) : ∃ E', WR P E' S (gc B cur M) cur0 (fun k => k < B) w ∧ SlR P E' cur0 (forget keep B cur 0 [] sl) tmps ∧ (∀ j, j < B → E'.β j = E.β j) ∧
    (∀ (v : AV) (u : Value), belowV B v = true → noTk v = true → ValR P E cur v u → ValR P E' cur0 v u) := by
  refine ⟨headE E cur M B (slotSrc (forget keep B cur 0 [] sl) sl), gc_WR hw (fun j k h => ?_) (fun j j' k h h' => ?_), ⟨by rw [forget_length]; exact hs.1, fun t ht => ?_⟩, fun j hj => by simp only [headE]; rw [if_pos hj], fun v u h1 h2 h3 => below_val h1 h2 h3⟩
  · obtain ⟨_, _, _, _, h2, _⟩ := slot_tk h
    exact h2
  · obtain ⟨e, r, s1, q1, q2, q3, q4, q5⟩ := slot_tk h
    obtain ⟨e', r', s1', p1, p2, p3, p4, p5⟩ := slot_tk h'
    rcases Nat.lt_trichotomy j j' with c | c | c
    · exact absurd (p5 j c q4 k (by rw [q1]; exact List.mem_singleton.2 rfl)) p3
    · exact c
    · exact absurd (q5 j' c p4 k (by rw [p1]; exact List.mem_singleton.2 rfl)) q3
  · rw [forget_length] at ht
    have hgt : ∀ {l : List AV}, t < l.length → lget l t .undef = lget l t .unk := by
      intro l h
      rw [lget_eq, lget_eq, List.getD, List.getD, List.getElem?_eq_getElem h]; rfl
    have hv := hs.2 t ht
    rw [hgt ht] at hv
    rw [hgt (by rw [forget_length]; exact ht)]
    obtain ⟨s', _, h2, h3⟩ := forget_get (keep := keep) B cur sl 0 [] t ht
    rw [Nat.zero_add] at h2
    rcases h2 with h2 | ⟨hb, h2⟩
    · rw [h2]; exact tupR_of_cell (by trivial)
    · have hsrc : slotSrc (forget keep B cur 0 [] sl) sl t = match slotMark cur s' t (headV (lget sl t .unk)) with
          | .lst _ _ (.tk _ _) => (match lget sl t .unk with | .lst e _ .nil => some (.nil e) | .lst _ _ (.tk k _) => some (.tk k) | _ => none)
          | _ => none := by
        unfold slotSrc; rw [h2]
      rw [h2]
      generalize lget sl t .unk = v at hb hv hsrc
      cases v
      case tup cs => simp [headV, belowV, below1] at hb
      case agg cs =>
        obtain ⟨vs, hu, h1⟩ := inv_agg hv
        exact tupR_of_val (below_val (v := .agg (aggPlain cs)) (cur := cur) hb rfl ⟨vs, hu, aggPlain_cells h1⟩)
      case lst e r m =>
        obtain ⟨hv1, hv2⟩ := inv_lst hv
        cases m with
        | view => exact ⟨hv1, trivial⟩
        | nil =>
          simp only [headV, slotMark] at hsrc ⊢
          refine ⟨hv1, .slice none 0 0, ?_, Nat.zero_le _, fun _ => ⟨hv2, ?_⟩⟩
          · simp only [headE, headSrc, hsrc]
          · simp only [headE, headSrc, hsrc]
        | tk k ver =>
          simp only [headV, slotMark] at hsrc ⊢
          cases hc : (slotTok k && Nat.beq (cur k) ver && !tmem k s')
          · exact ⟨hv1, trivial⟩
          · simp only [hc, cond_true] at hsrc ⊢
            simp only [Bool.and_eq_true] at hc
            have hver := Nat.eq_of_beq_eq_true hc.1.2
            obtain ⟨u, m1, m2, m3⟩ := hv2
            obtain ⟨rfl, m4⟩ := m3 hver
            refine ⟨hv1, _, ?_, Nat.zero_le _, fun _ => ⟨rfl, ?_⟩⟩
            · simp only [headE, headSrc, hsrc]; exact m1
            · simp only [headE, headSrc, hsrc]; exact m4
      all_goals exact tupR_of_val (below_val (cur := cur) hb rfl hv)

theorem defs_head {E' : Env} (hv : ∀ (v : AV) (u : Value), belowV B v = true → noTk v = true → ValR P E cur v u → ValR P E' cur0 v u) : ∀ {ds : Defs} {xs : List Deferred}, belowDs B ds = true → All2 (DefR P E cur) ds xs → All2 (DefR P E' cur0) ds xs
  | [], xs, _, h => by rw [h.nil_left]; trivial
  | (g, args) :: ds, xs, hb, h => by
    obtain ⟨x, xs', rfl, h1, h2⟩ := h.cons_left
    simp only [belowDs] at hb
    cases hx : belowAll B args
    · simp [hx] at hb
    · simp only [hx, cond_true] at hb
      refine ⟨?_, defs_head hv hb h2⟩
      obtain ⟨vs, cap, e, q1, q2⟩ := h1
      refine ⟨vs, cap, e, ?_, q2⟩
      have go : ∀ {l : List AV} {us : List Value}, belowAll B l = true → noTks l = true → All2 (ValR P E cur) l us → All2 (ValR P E' cur0) l us := by
        intro l
        induction l with
        | nil => intro us _ _ h; rw [h.nil_left]; trivial
        | cons v l ih =>
          intro us hb hn h
          obtain ⟨u, us', rfl, p1, p2⟩ := h.cons_left
          simp only [belowAll] at hb
          simp only [noTks] at hn
          cases hv1 : belowV B v
          · simp [hv1] at hb
          · simp only [hv1, cond_true] at hb
            cases hv2 : okD v
            · simp [hv2] at hn
            · simp only [hv2, cond_true] at hn
              have hv3 : noTk v = true := by cases v <;> first | exact hv2 | rfl
              exact ⟨hv v u hv1 hv3 p1, ih hb hn p2⟩
      exact go hx q2 q1

theorem head_at {sl : List AV} {nx : Nat} {ds : Defs} {a : Act} (hB : F.n0 ≤ B) (hds : belowDs B ds = true) (h : At P F sl M cur nx ds a w) : At P F (forget keep B cur 0 [] sl) (gc B cur M) cur0 B ds a w := by
  obtain ⟨E, hw, hs, hn, hk, hd⟩ := h
  obtain ⟨E', h1, h2, h3, h4⟩ := head_ok (B := B) (keep := keep) hw hs
  exact ⟨E', h1, h2, hB, fun j hj b hb => by rw [h3 j (by omega)]; exact hk j hj b hb, defs_head h4 hds hd⟩

theorem least {p : Nat → Prop} (h : ∃ n, p n) : ∃ n, p n ∧ ∀ m, m < n → ¬ p m := by
  obtain ⟨n, hn⟩ := h
  induction n using Nat.strongRecOn with
  | _ n ih =>
    by_cases hm : ∃ m, m < n ∧ p m
    · obtain ⟨m, h1, h2⟩ := hm; exact ih m h1 h2
    · exact ⟨n, hn, fun m h1 h2 => hm ⟨m, h1, h2⟩⟩
open Classical in
/-- a loop whose rounds are counted -/
theorem wp_rounds {c : Code} {Q : Exit → Act → World → Prop} (I : Nat → Act → World → Prop) (h0 : ∀ a w, ¬ I 0 a w) (round : ∀ n a w, I (n + 1) a w → c.wp P (Exit.then (fun a' w' => I n a' w') Q) a w) {n : Nat} {a : Act} {w : World} (h : I n a w) : (Code.loop c).wp P Q a w := by
  refine wp_loop (fun a w => ∃ n, I n a w) (fun a w => if h : ∃ n, I n a w then Classical.choose (least h) else 0) ⟨n, h⟩ fun a w hI => ?_
  have hs := (Classical.choose_spec (least hI)).1
  cases hm : Classical.choose (least hI) with
  | zero => rw [hm] at hs; exact absurd hs (h0 a w)
  | succ m =>
    rw [hm] at hs
    refine wp_mono (round m a w hs) fun e a' w' he => ?_
    cases e with
    | normal =>
      have hex : ∃ n, I n a' w' := ⟨m, he⟩
      refine ⟨hex, ?_⟩
      rw [dif_pos hex, dif_pos hI, hm]
      rcases Nat.lt_or_ge m (Classical.choose (least hex)) with hlt | hge
      · exact absurd he ((Classical.choose_spec (least hex)).2 m hlt)
      · exact Nat.lt_succ_of_le hge
    | _ => exact he

def gcAt (B : Nat) (cur : Cur) (M : Mem) (id : Nat) : Option AObj := match M id with | some o => cond (belowO B o) (some (normO cur id o)) none | none => none
theorem gcL_memL (B : Nat) (cur : Cur) (M : Mem) : ∀ (n j id : Nat), memL (gcL B cur M n j) id = if j ≤ id ∧ id < j + n then gcAt B cur M id else none
  | 0, j, id => by rw [if_neg (by omega)]; rfl
  | n + 1, j, id => by
    have ih := gcL_memL B cur M n (j + 1) id
    simp only [gcL]
    by_cases hj : id = j
    · subst hj
      have hout : memL (gcL B cur M n (id + 1)) id = none := by rw [ih, if_neg (by omega)]
      rw [if_pos (by omega)]
      unfold gcAt
      cases hM : M id with
      | none => simp only [hout]
      | some o =>
        simp only
        cases hb : belowO B o
        · simp only [cond_false, hout]
        · simp only [cond_true, memL, Nat.beq_refl]
    · have hb : Nat.beq id j = false := by
        cases h : Nat.beq id j
        · rfl
        · exact absurd (Nat.eq_of_beq_eq_true h) hj
      have h2 : memL (gcL B cur M n (j + 1)) id = if j ≤ id ∧ id < j + (n + 1) then gcAt B cur M id else none := by
        rw [ih]
        by_cases hc : j + 1 ≤ id ∧ id < j + 1 + n
        · rw [if_pos hc, if_pos (by omega)]
        · rw [if_neg hc, if_neg (by omega)]
      cases hM : M j with
      | none => exact h2
      | some o =>
        simp only
        cases hbo : belowO B o
        · simp only [cond_false]; exact h2
        · simp only [cond_true, memL, hb, cond_false]; exact h2
theorem memL_gc (B : Nat) (cur : Cur) (M : Mem) : memL (gcL B cur M B 0) = gc B cur M := by
  funext id
  rw [gcL_memL]
  unfold gc gcAt
  by_cases h : id < B
  · rw [if_pos (by omega)]
    have : Nat.blt id B = true := Nat.ble_eq_true_of_le h
    rw [this]; rfl
  · rw [if_neg (by omega)]
    have : Nat.blt id B = false := by
      cases hb : Nat.blt id B
      · rfl
      · exact absurd (Nat.le_of_ble_eq_true hb) h
    rw [this]; rfl
theorem toHead_some {keep : Nat} {B : Nat} {sl : List AV} {M : Mem} {cur : Cur} {ds : Defs} {K : List AV → MemL → Option Res} {R : Res} (h : toHead keep B sl M cur ds K = some R) : belowDs B ds = true ∧ K (forget keep B cur 0 [] sl) (gcL B cur M B 0) = some R := by
  unfold toHead at h
  rw [forceL_eq, forceU_eq] at h
  cases hb : belowDs B ds
  · simp [hb] at h
  · exact ⟨rfl, by simpa [hb] using h⟩

/-- a deferred call's value -/
theorem deferK_ok {f : AV} {args : List AV} {K : FuncId × List AV → Option Res} {R : Res} (h : deferK f args K = some R) : ∃ g first cap, f = .fn g first cap ∧ noTks (argVs (first ++ args ++ cap)) = true ∧ K (g, argVs (first ++ args ++ cap)) = some R := by
  unfold deferK at h
  split at h
  · rename_i g first cap
    rw [forceVs_eq] at h
    cases hb : noTks (argVs (first ++ args ++ cap))
    · rw [hb] at h; cases h
    · rw [hb] at h; exact ⟨g, first, cap, rfl, hb, h⟩
  · cases h
theorem noTks_mem : ∀ {l : List AV}, noTks l = true → ∀ v ∈ l, okD v = true
  | [], _, v, hv => by cases hv
  | x :: l, h, v, hv => by
    simp only [noTks] at h
    cases hx : okD x
    · simp [hx] at h
    · simp only [hx, cond_true] at h
      rcases List.mem_cons.1 hv with rfl | hv
      · exact hx
      · exact noTks_mem h v hv
theorem argVs_append : ∀ (l m : List AV), argVs (l ++ m) = argVs l ++ argVs m
  | [], m => rfl
  | v :: l, m => by simp [argVs, argVs_append l m]
theorem argVs_vals : ∀ {l : List AV} {us : List Value}, All2 (TupR P E cur) l us → (∀ v ∈ argVs l, ∀ cs, v ≠ .tup cs) → All2 (ValR P E cur) (argVs l) us
  | [], us, h, _ => by rw [h.nil_left]; trivial
  | v :: l, us, h, hn => by
    obtain ⟨u, us', rfl, h1, h2⟩ := h.cons_left
    refine ⟨plain_tup ?_, argVs_vals h2 fun x hx => hn x (List.mem_cons_of_mem _ hx)⟩
    have := hn (argV v) (List.mem_cons_self ..)
    cases v
    case tup cs => exact absurd rfl (this cs)
    all_goals exact h1
theorem simps_vals : ∀ {l : List AV} {us : List Value}, All2 (SimpR P E) l us → All2 (ValR P E cur) (argVs l) us
  | [], us, h => by rw [h.nil_left]; trivial
  | v :: l, us, h => by
    obtain ⟨u, us', rfl, h1, h2⟩ := h.cons_left
    refine ⟨?_, simps_vals h2⟩
    cases v
    case unk => exact h1.elim
    case undef => exact h1.elim
    case agg cs => exact h1.elim
    case tup cs => exact h1.elim
    case lst e l m => exact ⟨h1, trivial⟩
    case fn p q r' =>
      cases (show CR P E.H _ u from h1)
      exact ⟨[], [], rfl, trivial, trivial⟩
    all_goals exact h1

theorem lastDefer_spec : ∀ {ops : List Oper} {pre : List Oper} {f : Operand} {args : List Operand}, lastDefer ops = some (pre, f, args) → ∃ o T A, ops = pre ++ [o] ∧ o.op = .defer { callee := .value f, args := A, argTypes := T } ∧ A.toList = args ∧ o.dst = none ∧ o.guard = none
  | [], _, _, _, h => by simp [lastDefer] at h
  | [o], pre, f, args, h => by
    simp only [lastDefer] at h
    split at h
    · rename_i f' A T h1 h2 h3
      cases h
      exact ⟨o, T, A, rfl, h1, rfl, h2, h3⟩
    · cases h
  | o :: o' :: l, pre, f, args, h => by
    simp only [lastDefer, Option.map_eq_some_iff] at h
    obtain ⟨x, hx, he⟩ := h
    obtain ⟨p, q, r⟩ := x
    cases he
    obtain ⟨o1, T, A, h1, h2, h3⟩ := lastDefer_spec hx
    exact ⟨o1, T, A, by rw [h1]; rfl, h2, h3⟩

/-- a region that puts off a call -/
theorem region_defer (hρ : ∀ g, Sound P glob (ρ g) g) (hg : GlobR P F.S glob) {id : Nat} {opsA : Array Oper} {pre : List Oper} {f : Operand} {args : List Operand} (hl : lastDefer opsA.toList = some (pre, f, args)) {sl : List AV} {M : Mem} {cur : Cur} {nx : Nat} {ds : Defs} {k : Kont} {R : Res} {a : Act} {w : World}
    (h : runOps P glob ρ opsA.toList nx pre 0 sl M cur []
      (fun sl' M' cur' _ => deferK (rd P glob sl' 0 f) (rdAll P glob sl' (fun _ => 0) 0 args) fun d => k .normal sl' M' cur' (nx + opsA.size) (d :: ds))
      (fun v sl' M' cur' _ _ => k (.pan v) sl' M' cur' (nx + opsA.size) ds) = some R) (hat : At P F sl M cur nx ds a w) : (Code.region id opsA false).wp P (KQ P F k R) a w := by
  obtain ⟨E, hw, hs, hn0, hkeep, hds⟩ := hat
  obtain ⟨od, T, A, hops, hop, hA, hdst, hguard⟩ := lastDefer_spec hl
  have hsize : opsA.size = pre.length + 1 := by rw [← Array.length_toList, hops]; simp
  have hget : ∀ k, pre[k]? = opsA[0 + k]? ∨ pre.length ≤ k := fun k => by
    rcases Nat.lt_or_ge k pre.length with hk | hk
    · left; rw [Nat.zero_add, ← Array.getElem?_toList, hops, List.getElem?_append_left hk]
    · exact .inr hk
  have hlast : opsA[pre.length]? = some od := by rw [← Array.getElem?_toList, hops]; simp
  have hrange : List.range opsA.size = List.range' 0 pre.length ++ [0 + pre.length] := by
    rw [List.range_eq_range', hsize, ← List.range'_append_1]; rfl
  refine wp_region ?_
  rw [hrange]
  rcases runOps_spec hρ pre 0 sl M cur [] _ _ R h with ⟨items, C, h1, h2, h3⟩ | ⟨pre2, o, post, items, C, v, up, vers, rds, tks, h0, h1, h2, h3, h4⟩
  · have := text_ok (P := P) (glob := glob) (S := F.S) (ops := opsA.toList) (B := nx) hg (opsA := opsA) rfl (Q := KQ P F k R) (K := wpOps P opsA (KQ P F k R) [0 + pre.length]) (d0 := a.defers) (C := C) (E0 := E) (items := items) (rest := pre) (j := 0) (s := ⟨sl, M, cur⟩) (E := E) (a := a) (w := w) h1
      hget h2 hw hs (Later.refl _ _) rfl fun a1 w1 E1 hW hL hs1 hd1 => ?_
    · rw [foldr_wpOps] at this; exact this
    · obtain ⟨g, first, cap, hf, hno, hk⟩ := deferK_ok h3
      have hfr := rd_ok hW hg hs1 0 f
      rw [hf] at hfr
      obtain ⟨a', c', ef, q1, q2⟩ := inv_fn hfr
      have hargs := rdAll_ok hW hg hs1 (fun _ => 0) 0 args
      have hrun : (execOp a1.eval od).run P w1 = .ok (.defer { target := .fn (.func g) c'.toArray, args := (a' ++ args.map a1.eval).toArray }) w1 := by
        have e1 : a'.toArray ++ A.map a1.eval = (a' ++ args.map a1.eval).toArray := by
          apply Array.ext'; simp [← hA]
        simp only [execOp, hop, resolve, ef, Deferred.ofValue, Sem.run_bind, Sem.run_pure, Result.andThen_ok, e1]
      simp only [Nat.zero_add, wpOps, hlast]
      have hwant : Region.wanted od (yielded opsA a1.tmps) = true := by simp [Region.wanted, hguard]
      rw [if_pos hwant]
      refine .inl ?_
      unfold Oper.wp
      rw [hrun, Oper.upon_defer, hdst]
      refine ⟨_, _, _, _, _, hk, E1, hW.more fun k hk => by omega, hs1, by omega, fun j hj b hb => hL.β j b (hkeep j hj b hb), ?_⟩
      refine ⟨⟨a' ++ args.map a1.eval, c', rfl, ?_, hno⟩, ?_⟩
      · rw [argVs_append, argVs_append] at hno ⊢
        refine All2.append (All2.append (simps_vals q1) (argVs_vals hargs fun v hv cs he => ?_)) (simps_vals q2)
        have := noTks_mem hno v (List.mem_append_left _ (List.mem_append_right _ hv))
        rw [he] at this; cases this
      · show All2 _ ds a1.defers
        rw [hd1]; exact hds.mono fun _ _ => DefR.later hL
  · have hget2 : ∀ k, pre2[k]? = opsA[0 + k]? ∨ pre2.length ≤ k := fun k => by
      rcases Nat.lt_or_ge k pre2.length with hk | hk
      · left; rw [Nat.zero_add, ← Array.getElem?_toList, hops, h0, List.append_assoc, List.getElem?_append_left hk]
      · exact .inr hk
    have hjp : opsA[0 + pre2.length]? = some o := by
      rw [Nat.zero_add, ← Array.getElem?_toList, hops, h0, List.append_assoc]; simp
    have hplen : pre.length = pre2.length + (post.length + 1) := by rw [h0]; simp
    have := text_ok (P := P) (glob := glob) (S := F.S) (ops := opsA.toList) (B := nx) hg (opsA := opsA) rfl (Q := KQ P F k R) (K := wpOps P opsA (KQ P F k R) ((0 + pre2.length) :: (List.range' (pre2.length + 1) post.length ++ [0 + pre.length]))) (d0 := a.defers) (C := C) (E0 := E) (items := items) (rest := pre2) (j := 0) (s := ⟨sl, M, cur⟩) (E := E) (a := a) (w := w) h1
      hget2 h2 hw hs (Later.refl _ _) rfl fun a1 w1 E1 hW hL hs1 hd1 => ?_
    · rw [foldr_wpOps] at this
      have hr : List.range' 0 pre2.length ++ (0 + pre2.length) :: (List.range' (pre2.length + 1) post.length ++ [0 + pre.length]) = List.range' 0 pre.length ++ [0 + pre.length] := by
        rw [hplen, ← List.range'_append_1, List.range'_succ]
        simp only [Nat.zero_add, List.append_assoc, List.cons_append]
      rw [hr] at this
      exact this
    · rw [wpOps_cons]
      refine pan_ok hW (by omega) hg hs1 rfl hjp h3 fun v1 w2 E2 hW2 hL2 hc => ?_
      refine ⟨_, _, _, _, _, v, v1, E2, h4, rfl, hW2.more fun k hk => by rcases hk with h | h <;> omega, by omega, fun j hj b hb => (hL.trans hL2).β j b (hkeep j hj b hb), hc, (SlR.later hL2 hs1).weak, ?_⟩
      rw [hd1]; exact hds.mono fun _ _ => DefR.later (hL.trans hL2)

theorem run_ok (hρ : ∀ g, Sound P glob (ρ g) g) (hg : GlobR P F.S glob) (hm : P.follows .mixedOrders = true) (fuel : Nat) : ∀ (c : Code), drawsOk c = true → ∀ {lv : Nat} {sl : List AV} {M : Mem} {cur : Cur} {nx : Nat} {ds : Defs} {k : Kont} {R : Res} {a : Act} {w : World},
    run P glob ρ (loopN fuel) jpId c lv sl M cur nx ds k = some R → At P F sl M cur nx ds a w → c.wp P (KQ P F k R) a w
  | .skip, _, lv, sl, M, cur, nx, ds, k, R, a, w, h, hat => wp_skip ⟨_, _, _, _, _, h, hat⟩
  | .label _, _, lv, sl, M, cur, nx, ds, k, R, a, w, h, hat => wp_label ⟨_, _, _, _, _, h, hat⟩
  | .region id ops draw, hdr, lv, sl, M, cur, nx, ds, k, R, a, w, h, hat => by
    have h : runRegion P glob ρ ops draw sl M cur nx ds k = some R := h
    unfold runRegion at h
    split at h
    · exact region_ok hρ hg hm hdr h hat
    · rename_i pre f args hl
      cases draw with
      | true => simp at h
      | false => exact region_defer hρ hg hl h hat
  | .seq x y, hdr, lv, sl, M, cur, nx, ds, k, R, a, w, h, hat => by
    simp only [drawsOk, Bool.and_eq_true] at hdr
    have h : run P glob ρ (loopN fuel) jpId x (Nat.lor (readsOf y) lv) sl M cur nx ds (seqK jpId (isJoin x y) (Nat.lor (readsOf y) lv) (run P glob ρ (loopN fuel) jpId y lv) (nx + opsIn x) k) = some R := h
    refine wp_seq (wp_mono (run_ok hρ hg hm fuel x hdr.1 h hat) fun e a1 w1 he => ?_)
    cases hj : isJoin x y
    · simp only [hj, seqK, cond_false] at he
      cases e with
      | normal =>
        obtain ⟨sl1, M1, c1, n1, ds1, h1, hat1⟩ := he
        exact run_ok hρ hg hm fuel y hdr.2 h1 hat1.more
      | _ => exact he
    · simp only [hj, seqK, cond_true] at he
      cases e with
      | normal =>
        obtain ⟨sl1, M1, c1, n1, ds1, h1, hat1⟩ := he
        obtain ⟨hb1, h1⟩ := toHead_some h1
        have hn1 : F.n0 ≤ Nat.max n1 (nx + opsIn x) := by
          obtain ⟨_, _, _, q, _⟩ := hat1
          exact Nat.le_trans q (Nat.le_max_left _ _)
        have hat2 := head_at (keep := Nat.lor (readsOf y) lv) hn1 hb1 hat1
        rw [← memL_gc] at hat2
        exact run_ok hρ hg hm fuel y hdr.2 h1 hat2
      | _ => exact he
  | .cond c x y, hdr, lv, sl, M, cur, nx, ds, k, R, a, w, h, hat => by
    simp only [drawsOk, Bool.and_eq_true] at hdr
    cases c with
    | tmp t =>
      have h : (match lget sl t .unk with
        | .b b => cond b (run P glob ρ (loopN fuel) jpId x lv (lset sl t (.b true)) M cur nx ds k) (run P glob ρ (loopN fuel) jpId y lv (lset sl t (.b false)) M cur nx ds k)
        | _ => none) = some R := h
      split at h
      · rename_i b hb
        have hev : a.eval (.tmp t) = .bool b := by
          obtain ⟨E, hw, hs, _⟩ := hat
          have h1 := hs.get t
          have hlt : t < sl.length := by
            rcases Nat.lt_or_ge t sl.length with h | h
            · exact h
            · rw [lget_eq, List.getD, List.getElem?_eq_none h] at hb; cases hb
          have h2 : lget sl t .undef = .b b := by
            rw [lget_eq, List.getD, List.getElem?_eq_getElem hlt] at hb ⊢; exact hb
          rw [h2] at h1
          exact inv_b h1
        cases b with
        | true =>
          simp only [cond_true, lset_same hb (by simp)] at h
          exact wp_cond_true hev (run_ok hρ hg hm fuel x hdr.1 h hat)
        | false =>
          simp only [cond_false, lset_same hb (by simp)] at h
          exact wp_cond_false hev (run_ok hρ hg hm fuel y hdr.2 h hat)
      · cases h
    | _ => cases h
  | .block id c, hdr, lv, sl, M, cur, nx, ds, k, R, a, w, h, hat => by
    have h : run P glob ρ (loopN fuel) jpId c lv sl M cur nx ds (blockK id k) = some R := h
    refine wp_block (wp_mono (run_ok hρ hg hm fuel c hdr h hat) fun e a1 w1 he => ?_)
    cases e with
    | exit id' =>
      obtain ⟨sl1, M1, c1, n1, ds1, h1, hat1⟩ := he
      simp only [blockK] at h1
      simp only [Exit.inBlock]
      by_cases hid : id' = id
      · subst hid
        simp only [Nat.beq_refl, cond_true] at h1
        rw [if_pos rfl]
        exact ⟨sl1, M1, c1, n1, ds1, h1, hat1⟩
      · have : Nat.beq id' id = false := by
          cases hb : Nat.beq id' id
          · rfl
          · exact absurd (Nat.eq_of_beq_eq_true hb) hid
        simp only [this, cond_false] at h1
        rw [if_neg hid]
        exact ⟨sl1, M1, c1, n1, ds1, h1, hat1⟩
    | _ => exact he
  | .loop c, hdr, lv, sl, M, cur, nx, ds, k, R, a, w, h, hat => by
    have h : toHead (Nat.lor (readsOf c) lv) nx sl M cur ds (fun sl0 l0 => loopN fuel (run P glob ρ (loopN fuel) jpId c (Nat.lor (readsOf c) lv)) (Nat.lor (readsOf c) lv) nx sl0 l0 ds k) = some R := h
    have hn0 : F.n0 ≤ nx := by obtain ⟨E, _, _, q, _⟩ := hat; exact q
    obtain ⟨hb0, h⟩ := toHead_some h
    have hat0 := head_at (keep := Nat.lor (readsOf c) lv) hn0 hb0 hat
    rw [← memL_gc] at hat0
    refine wp_rounds (fun n a w => ∃ sl1 l1 ds1, loopN n (run P glob ρ (loopN fuel) jpId c (Nat.lor (readsOf c) lv)) (Nat.lor (readsOf c) lv) nx sl1 l1 ds1 k = some R ∧ At P F sl1 (memL l1) cur0 nx ds1 a w) (fun a w => ?_) (fun n a1 w1 hI => ?_) (n := fuel) ⟨_, _, _, h, hat0⟩
    · rintro ⟨sl1, l1, ds1, h1, _⟩
      simp [loopN] at h1
    · obtain ⟨sl1, l1, ds1, h1, hat1⟩ := hI
      have h1 : run P glob ρ (loopN fuel) jpId c (Nat.lor (readsOf c) lv) sl1 (memL l1) cur0 nx ds1 (backK (fun sl l ds => loopN n (run P glob ρ (loopN fuel) jpId c (Nat.lor (readsOf c) lv)) (Nat.lor (readsOf c) lv) nx sl l ds k) (Nat.lor (readsOf c) lv) nx k) = some R := h1
      refine wp_mono (run_ok hρ hg hm fuel c hdr h1 hat1) fun e a2 w2 he => ?_
      cases e with
      | normal =>
        obtain ⟨sl2, M2, c2, n2, ds2, h2, hat2⟩ := he
        obtain ⟨hb2, h2⟩ := toHead_some h2
        have hat3 := head_at (keep := Nat.lor (readsOf c) lv) hn0 hb2 hat2
        rw [← memL_gc] at hat3
        exact ⟨_, _, _, h2, hat3⟩
      | _ => exact he
  | .exit id, _, lv, sl, M, cur, nx, ds, k, R, a, w, h, hat => wp_exit ⟨_, _, _, _, _, h, hat⟩
  | .ret, _, lv, sl, M, cur, nx, ds, k, R, a, w, h, hat => wp_ret ⟨_, _, _, _, _, h, hat⟩
  | .rangeFunc _ _ _ _, _, lv, sl, M, cur, nx, ds, k, R, a, w, h, hat => by simp [run] at h
  | .scope _, _, lv, sl, M, cur, nx, ds, k, R, a, w, h, hat => by simp [run] at h
  | .goto _, _, lv, sl, M, cur, nx, ds, k, R, a, w, h, hat => by simp [run] at h
  | .refuse _, _, lv, sl, M, cur, nx, ds, k, R, a, w, h, hat => by simp [run] at h
end
end Go.AI

/-
  A FUNCTION. Nothing here is about one program.
-/
set_option linter.unusedVariables false
set_option linter.unusedSimpArgs false
namespace Go.AI

section
variable {P : Program} {glob : Nat → Option AV} {ρ : FuncId → Fn} {F : Frm} {E : Env} {S : Start} {M M' : Mem} {cur : Cur} {U : Nat → Prop} {w : World} {n : Nat}

theorem WR.sub (hw : WR P E S M cur U w) (h : ∀ id o, M' id = some o → M id = some o) : WR P E S M' cur U w :=
  { hw with mem := fun id o ho => hw.mem id o (h id o ho) }

theorem objsA_spec (cur : Cur) (M : Mem) : ∀ (m j : Nat) (os : List AObj), objsA cur M m j = some os → os.length = m ∧ ∀ i o, lnth os i = some o → ∃ x, M (j + i) = some x ∧ o = normO cur (j + i) x
  | 0, j, os, h => by simp only [objsA, Option.some.injEq] at h; subst h; exact ⟨rfl, fun i o h => by cases i <;> simp [lnth] at h⟩
  | m + 1, j, os, h => by
    simp only [objsA, Option.bind_eq_some_iff, Option.map_eq_some_iff] at h
    obtain ⟨x, hx, l, hl, rfl⟩ := h
    obtain ⟨h1, h2⟩ := objsA_spec cur M m (j + 1) l hl
    refine ⟨by simp [h1], fun i o ho => ?_⟩
    cases i with
    | zero => simp only [lnth, Option.some.injEq] at ho; exact ⟨x, hx, ho.symm⟩
    | succ i =>
      obtain ⟨y, hy, he⟩ := h2 i o ho
      exact ⟨y, by rw [show j + (i + 1) = j + 1 + i from by omega]; exact hy, by rw [show j + (i + 1) = j + 1 + i from by omega]; exact he⟩
theorem belowV_norm {c : AV} {id off : Nat} (h : belowV n (normC cur id off c) = true) : belowV n c = true := by
  cases c
  case lst e r m => rfl
  all_goals exact h
theorem belowO_norm {id : Nat} {o : AObj} (h : belowO n (normO cur id o) = true) : belowO n o = true := by
  cases o with
  | map _ _ _ => rfl
  | box cs =>
    have : ∀ (cs : List AV) (off : Nat), belowAll n (normL cur id off cs) = true → belowAll n cs = true := by
      intro cs
      induction cs with
      | nil => intro off _; rfl
      | cons c cs ih =>
        intro off h
        rw [normL_cons] at h
        simp only [belowAll] at h ⊢
        cases hc : belowV n (normC cur id off c)
        · simp [hc] at h
        · simp only [hc, cond_true] at h
          rw [belowV_norm hc, cond_true]
          exact ih _ h
    exact this cs 0 h
theorem belowOs_get : ∀ {os : List AObj}, belowOs n os = true → ∀ i o, lnth os i = some o → belowO n o = true
  | [], _, i, o, h => by cases i <;> simp [lnth] at h
  | x :: os, h, i, o, ho => by
    simp only [belowOs] at h
    cases hx : belowO n x
    · simp [hx] at h
    · simp only [hx, cond_true] at h
      cases i with
      | zero => simp only [lnth, Option.some.injEq] at ho; subst ho; exact hx
      | succ i => exact belowOs_get h i o ho
theorem normO_named {os : List AObj} (h : ∀ i o, lnth os i = some o → ∃ x, M i = some x ∧ o = normO cur i x) : Named os := by
  intro j cs off e r k ver hj hc
  obtain ⟨x, _, hx⟩ := h j _ hj
  cases x with
  | map _ _ _ => cases hx
  | box cs0 =>
    simp only [normO, AObj.box.injEq] at hx
    subst hx
    have hlt : off < cs0.length := by
      rcases Nat.lt_or_ge off cs0.length with h | h
      · exact h
      · rw [lget_eq, List.getD, List.getElem?_eq_none (by rw [normL_length]; exact h)] at hc; cases hc
    rw [normL_get _ _ _ _ hlt, Nat.zero_add] at hc
    unfold normC at hc
    split at hc
    · rename_i e' r' k' ver' heq
      cases hb : (Nat.beq (cur k') ver' && !(slotTok k')) <;> simp only [hb, cond_true, cond_false] at hc <;> cases hc
      rfl
    · have := plain_noTk (lget cs0 off .unk)
      rw [hc] at this; cases this

/-- the boxes as a function hands them back -/
theorem fin_os (hw : WR P E S M cur U w) {os : List AObj} (h1 : objsA cur M n 0 = some os) (h2 : belowOs n os = true) :
    os.length = n ∧ Named os ∧ WR P (headE E cur M n fun _ => none) S (fun id => lnth os id) cur0 (fun k => k < n) w := by
  obtain ⟨q1, q2⟩ := objsA_spec cur M n 0 os h1
  have q2' : ∀ i o, lnth os i = some o → ∃ x, M i = some x ∧ o = normO cur i x := fun i o h => by have := q2 i o h; simpa using this
  refine ⟨q1, normO_named q2', (gc_WR (B := n) (sls := fun _ => none) hw (fun j k h => by cases h) (fun j j' k h => by cases h)).sub fun id o ho => ?_⟩
  obtain ⟨x, hx, rfl⟩ := q2' id o ho
  have hlt : id < n := by rw [← q1]; exact lnth_lt ho
  have hb := belowO_norm (belowOs_get h2 id _ ho)
  unfold gc
  have : Nat.blt id n = true := Nat.ble_eq_true_of_le hlt
  simp [this, hx, hb]

/-! ### results -/
theorem argV_noTk (v : AV) : noTk (argV v) = true := by
  cases v
  case lst e r m => rfl
  all_goals rfl
theorem belowAll_all2 {R : AV → Value → Prop} : ∀ {vs : List AV} {us : List Value}, belowAll n vs = true → All2 R vs us → All2 (fun v u => R v u ∧ belowV n v = true) vs us
  | [], us, _, h => by rw [h.nil_left]; trivial
  | v :: vs, us, hb, h => by
    obtain ⟨u, us', rfl, h1, h2⟩ := h.cons_left
    simp only [belowAll] at hb
    cases hv : belowV n v
    · simp [hv] at hb
    · simp only [hv, cond_true] at hb
      exact ⟨⟨h1, hv⟩, belowAll_all2 hb h2⟩

theorem res_tmp {sl : List AV} {tmps : Array Value} (hs : SlW P E cur sl tmps) (t : Nat) (hb : belowV n (argV (lget sl t .unk)) = true) : ValR P E cur (argV (lget sl t .unk)) (tmps.getD t undef) := by
  have h1 := hs t
  generalize lget sl t .unk = v at h1 hb
  refine plain_tup ?_
  cases v
  case tup cs => simp [argV, plain, belowV, below1] at hb
  all_goals exact h1
end
end Go.AI

/-
  A FUNCTION, whole. Nothing here is about one program.
-/
set_option linter.unusedVariables false
set_option linter.unusedSimpArgs false
namespace Go.AI

section
variable {P : Program} {glob : Nat → Option AV} {ρ : FuncId → Fn} {F : Frm} {E : Env} {S : Start} {M M' : Mem} {cur : Cur} {U : Nat → Prop} {w : World} {n : Nat}

theorem readT_ok (hw : WR P E S M cur U w) {t : TypeId} {x v : AV} {u : Value} (hx : TupR P E cur x u) (h : readT P t M x = some v) : ∃ u', (do loadVar t (← asAddr u)).run P w = .ok u' w ∧ ValR P E cur v u' ∧ unmarkedV v = true := by
  unfold readT at h
  split at h
  · rename_i id off
    obtain ⟨b, hb, rfl⟩ := inv_ptr hx
    split at h
    · rename_i cs hm
      obtain ⟨b', vs, hb', hall, hbx, hcell, hfro, _, _⟩ := box_cell hw hm
      have : b' = b := by rw [hb] at hb'; exact (Option.some.inj hb').symm
      subst this
      have hlen := hall.length
      cases hagg : isAggB P t
      · simp only [hagg, cond_false] at h
        cases hc : (Nat.blt off cs.length && (P.underlying t).isSome)
        · simp [hc] at h
        · simp only [hc, cond_true, Option.some.injEq] at h
          subst h
          rw [Bool.and_eq_true] at hc
          have hlt : off < cs.length := Nat.le_of_ble_eq_true hc.1
          have hu := isAggB_not hagg hc.2
          have hv : vs[off]? = some (lget vs off undef) := by rw [lget_eq]; simp [List.getElem?_eq_getElem (by omega : off < vs.length)]
          have hl : (loadVar t ⟨b', off, none⟩).run P w = .ok (lget vs off undef) w := by
            simp [loadVar, run_isAgg_false hu, hcell, hv]
          refine ⟨lget vs off undef, by simp [asAddr, hl], valR_of_cell (plain_cell (hall.get off .unk undef hlt)), ?_⟩
          have hbx' := boxables_get hbx off hlt
          generalize lget cs off .unk = c at hbx'
          cases c <;> first | rfl | (simp [boxable] at hbx')
      · simp only [hagg, cond_true] at h
        cases hc : (Nat.ble (off + szOf P t) cs.length && (P.info? t).isSome)
        · simp [hc] at h
        · simp only [hc, cond_true, Option.some.injEq] at h
          subst h
          rw [Bool.and_eq_true] at hc
          have hle := Nat.le_of_ble_eq_true hc.1
          obtain ⟨d, hd, hr⟩ := isAggB_row hagg
          have hl := run_loadAt_mid (P := P) w b' off t ((vs.drop off).take (szOf P t)) d (rangeAt_of_cells hcell off _) hd hr (by rw [info_size hc.2]; simp; omega)
          have hl' : (loadVar t ⟨b', off, none⟩).run P w = .ok (.agg ((vs.drop off).take (szOf P t)).toArray) w := by
            simpa [Instr.loadAt, Instr.sureAddr] using hl
          refine ⟨.agg ((vs.drop off).take (szOf P t)).toArray, by simp [asAddr, hl'], ⟨(vs.drop off).take (szOf P t), rfl, aggPlain_cells ?_⟩, ?_⟩
          · rw [ldrop_eq]; exact (hall.drop off).take _
          · exact argV_unmarked (.agg (List.take (szOf P t) (ldrop off cs)))
    · cases h
  · cases h

/-- one result -/
def resOne (tmps : Array Value) : ResultVar → Sem Value
  | .tmp t => pure (tmps.getD t undef)
  | .cell a t => do loadVar t (← asAddr (tmps.getD a undef))
theorem results_go (hw : WR P E S M cur U w) {sl : List AV} {tmps : Array Value} (hs : SlW P E cur sl tmps) : ∀ (rs : List ResultVar) (vs : List AV), resultsA P sl M rs = some vs → belowAll n vs = true →
    ∃ us : List Value, (rs.mapM (resOne tmps)).run P w = .ok us w ∧ All2 (fun v u => ValR P E cur v u ∧ unmarkedV v = true) vs us
  | [], vs, h, hb => by
    simp only [resultsA, Option.some.injEq] at h
    subst h
    exact ⟨[], by simp, trivial⟩
  | .tmp t :: rs, vs, h, hb => by
    simp only [resultsA, Option.map_eq_some_iff] at h
    obtain ⟨l, hl, rfl⟩ := h
    simp only [belowAll] at hb
    cases hv : belowV n (argV (lget sl t .unk))
    · simp [hv] at hb
    · simp only [hv, cond_true] at hb
      obtain ⟨us, h1, h2⟩ := results_go hw hs rs l hl hb
      exact ⟨tmps.getD t undef :: us, by simp [List.mapM_cons, resOne, h1], ⟨res_tmp hs t hv, argV_unmarked _⟩, h2⟩
  | .cell a ty :: rs, vs, h, hb => by
    simp only [resultsA, Option.bind_eq_some_iff, Option.map_eq_some_iff] at h
    obtain ⟨v, hv, l, hl, rfl⟩ := h
    simp only [belowAll] at hb
    cases hbv : belowV n v
    · simp [hbv] at hb
    · simp only [hbv, cond_true] at hb
      obtain ⟨us, h1, h2⟩ := results_go hw hs rs l hl hb
      obtain ⟨u', q1, q2, q3⟩ := readT_ok hw (hs a) hv
      exact ⟨u' :: us, by simp only [List.mapM_cons, resOne, Sem.run_bind] at q1 ⊢; rw [q1]; simp [h1], ⟨q2, q3⟩, h2⟩
end
end Go.AI

/-
  A FUNCTION, sound. Nothing here is about one program.
-/
set_option linter.unusedVariables false
set_option linter.unusedSimpArgs false
namespace Go.AI

section
variable {P : Program} {glob : Nat → Option AV} {ρ : FuncId → Fn} {F : Frm} {E : Env} {S : Start} {M M' : Mem} {cur : Cur} {U : Nat → Prop} {w : World} {n : Nat}

theorem oneOrTup_ok {vs : List AV} {us : List Value} (h : All2 (fun v u => ValR P E cur v u ∧ unmarkedV v = true) vs us) (hb : belowAll n vs = true) {c : Cur} : TupR P (headE E cur M n fun _ => none) c (oneOrTup vs) (if h : us.toArray.size = 1 then us.toArray[0] else .tuple us.toArray) ∧ unmarkedR (oneOrTup vs) = true := by
  have hx := belowAll_all2 hb h
  have one : ∀ {v : AV} {u : Value}, (ValR P E cur v u ∧ unmarkedV v = true) ∧ belowV n v = true → ValR P (headE E cur M n fun _ => none) c v u := by
    intro v u hv
    refine below_val hv.2 ?_ hv.1.1
    have := hv.1.2
    cases v
    case lst e r m => cases m <;> simp [unmarkedV, unmarked] at this <;> rfl
    all_goals rfl
  have hall : All2 (fun v u => ValR P (headE E cur M n fun _ => none) c v u) vs us := hx.mono fun _ _ => one
  have hum : ∀ {l : List AV} {m : List Value}, All2 (fun v u => ValR P E cur v u ∧ unmarkedV v = true) l m → l.all unmarkedV = true := by
    intro l
    induction l with
    | nil => intro m _; rfl
    | cons v l ih =>
      intro m hm
      obtain ⟨u, m', rfl, q1, q2⟩ := hm.cons_left
      simp [q1.2, ih q2]
  match vs, us, h, hall with
  | [v], [u], h, hall =>
    refine ⟨by simpa [oneOrTup] using tupR_of_val hall.1, ?_⟩
    have := h.1.2
    cases v
    case tup cs => simp [unmarkedV, unmarked, oneOrTup, unmarkedR] ; exact (h.1.1).elim
    all_goals exact this
  | [], [], h, hall => exact ⟨⟨[], by simp, trivial⟩, rfl⟩
  | v :: v' :: l, u :: u' :: m, h, hall => exact ⟨⟨u :: u' :: m, by simp, hall⟩, hum h⟩
  | [], _ :: _, h, _ => exact h.elim
  | [_], [], h, _ => exact h.elim
  | [_], _ :: _ :: _, h, _ => exact h.2.elim
  | _ :: _ :: _, [], h, _ => exact h.elim
  | _ :: _ :: _, [_], h, _ => exact h.2.elim

theorem sl_start {args : List AV} {vs : List Value} (h : All2 (ValR P E cur) args vs) (m : Nat) : SlR P E cur (args ++ List.replicate (m - args.length) .undef) (vs.toArray ++ Array.replicate (m - vs.toArray.size) undef) := by
  have hl := h.length
  have hall : All2 (TupR P E cur) (args ++ List.replicate (m - args.length) .undef) (vs ++ List.replicate (m - args.length) undef) := (h.mono fun _ _ => tupR_of_val).append (All2.replicate (show TupR P E cur .undef undef from rfl) _)
  have e : (vs.toArray ++ Array.replicate (m - vs.toArray.size) undef) = (vs ++ List.replicate (m - args.length) undef).toArray := by
    rw [hl]; apply Array.ext'; simp
  rw [e]
  refine ⟨by simpa using hall.length, fun t ht => ?_⟩
  have := hall.get t .undef undef ht
  have e2 : (vs ++ List.replicate (m - args.length) undef).toArray.getD t undef = lget (vs ++ List.replicate (m - args.length) undef) t undef := by
    rw [lget_eq, Array.getD_eq_getD_getElem?, List.getElem?_toArray]; rfl
  rw [e2]
  exact this

theorem results_run (hw : WR P E S M cur U w) {sl : List AV} {tmps : Array Value} (hs : SlW P E cur sl tmps) {fn : Func} {vs : List AV} (h : resultsA P sl M fn.results.toList = some vs) (hb : belowAll n vs = true) {M2 : Mem} {c : Cur} :
    ∃ u, (results fn tmps).run P w = .ok u w ∧ TupR P (headE E cur M2 n fun _ => none) c (oneOrTup vs) u ∧ unmarkedR (oneOrTup vs) = true := by
  obtain ⟨us, h1, h2⟩ := results_go hw hs fn.results.toList vs h hb
  obtain ⟨q1, q2⟩ := oneOrTup_ok (M := M2) (c := c) h2 hb
  refine ⟨_, ?_, q1, q2⟩
  have hr : (fn.results.mapM (resOne tmps)).run P w = .ok us.toArray w := by
    rw [Array.mapM_eq_mapM_toList]
    simp [h1]
  have e : results fn tmps = (do let vs ← fn.results.mapM (resOne tmps); pure (if h : vs.size = 1 then vs[0] else .tuple vs)) := rfl
  rw [e]
  simp only [Sem.run_bind, hr, Result.andThen_ok, Sem.run_pure]
end
end Go.AI

/-
  HOW A FUNCTION IS LEFT: calls that were put off, what they catch. Nothing here is about one program.
-/
set_option linter.unusedVariables false
set_option linter.unusedSimpArgs false
namespace Go.AI

section
variable {P : Program} {glob : Nat → Option AV} {ρ : FuncId → Fn} {E : Env} {S : Start} {M : Mem} {cur : Cur} {U : Nat → Prop} {w : World}

/-! ### from a later moment on -/
def againS (S : Start) (E : Env) (w : World) : Start := { H := E.H, w, acc := fun b => S.acc b ∨ S.w.heap.size ≤ b }
theorem WR.again (h : WR P E S M cur U w) : WR P E (againS S E w) M cur U w :=
  { h with
    bnd := fun i b hb => ⟨(h.bnd i b hb).1, (h.bnd i b hb).2.1, .inl (h.bnd i b hb).2.2⟩
    ext := fun _ _ _ h => h
    acc := fun b o v h => .inl h
    rights := fun k e u h1 h2 => ⟨(h.rights k e u h1 h2).1, fun g hg => .inl ((h.rights k e u h1 h2).2 g hg)⟩
    os := rfl, tape := rfl, output := rfl, size := Nat.le_refl _, frame := fun _ _ _ => rfl }
theorem WR.back {E' : Env} {M' : Mem} {cur' : Cur} {U' : Nat → Prop} {w' : World} (h : WR P E S M cur U w) (k : WR P E' (againS S E w) M' cur' U' w') : WR P E' S M' cur' U' w' := by
  have old : ∀ {b : Nat}, (againS S E w).acc b ∨ (againS S E w).w.heap.size ≤ b → S.acc b ∨ S.w.heap.size ≤ b := by
    intro b hb
    rcases hb with hb | hb
    · exact hb
    · exact .inr (Nat.le_trans h.size hb)
  exact
    { k with
      bnd := fun i b hb => ⟨(k.bnd i b hb).1, (k.bnd i b hb).2.1, old (k.bnd i b hb).2.2⟩
      ext := fun b o v hv => k.ext b o v (h.ext b o v hv)
      acc := fun b o v hv => by
        rcases k.acc b o v hv with h1 | h1
        · exact h.acc b o v h1
        · exact .inr (old h1)
      rights := fun t e u h1 h2 => ⟨(k.rights t e u h1 h2).1, fun g hg => old ((k.rights t e u h1 h2).2 g hg)⟩
      os := k.os.trans h.os, tape := k.tape.trans h.tape, output := k.output.trans h.output, size := Nat.le_trans h.size k.size
      frame := fun b hb hn => (k.frame b (Nat.lt_of_lt_of_le hb h.size) (fun hc => by
        rcases hc with hc | hc
        · exact hn hc
        · omega)).trans (h.frame b hb hn) }

/-! ### what stays, of a value that names no box from n on and has no right -/
section
variable {E' : Env} {cur' : Cur} {n : Nat}
theorem keep_simp (hβ : ∀ j, j < n → ∀ b, E.β j = some b → E'.β j = some b) (hH : ∀ b o v, E.H b o = some v → E'.H b o = some v) {v : AV} {u : Value} (h : below1 n v = true) (hv : SimpR P E v u) : SimpR P E' v u := by
  have hc : ∀ {x : AV}, CR P E.H x u → CR P E'.H x u := fun hx => hx.mono hH
  cases v
  case ptr id off =>
    obtain ⟨b, hb, hu⟩ := hv
    exact ⟨b, hβ id (Nat.le_of_ble_eq_true h) b hb, hu⟩
  case bsl e id off len cap =>
    obtain ⟨b, hb, hu⟩ := hv
    exact ⟨b, hβ id (Nat.le_of_ble_eq_true h) b hb, hu⟩
  case map id =>
    obtain ⟨b, hb, hu⟩ := hv
    exact ⟨b, hβ id (Nat.le_of_ble_eq_true h) b hb, hu⟩
  case unk => exact hv.elim
  case undef => exact hv.elim
  case agg => exact hv.elim
  case tup => exact hv.elim
  all_goals exact hc hv
theorem keep_cell (hβ : ∀ j, j < n → ∀ b, E.β j = some b → E'.β j = some b) (hH : ∀ b o v, E.H b o = some v → E'.H b o = some v) {v : AV} {u : Value} (h : belowV n v = true) (hm : noTk v = true) (hv : CellR P E cur v u) : CellR P E' cur' v u := by
  cases v
  case unk => trivial
  case undef => exact hv
  case agg cs => exact hv.elim
  case tup cs => exact hv.elim
  case lst e r m =>
    refine ⟨hv.1.mono hH, ?_⟩
    cases m with
    | view => trivial
    | nil => exact hv.2
    | tk k ver => simp [noTk] at hm
  case fn f a c =>
    obtain ⟨a', c', hu, h1, h2⟩ := hv
    simp only [belowV, Bool.and_eq_true] at h
    refine ⟨a', c', hu, ?_, ?_⟩
    · exact All2.of_get .unk undef h1.length fun i hi => keep_simp hβ hH (belowL_get h.1 i hi).1 (h1.get i .unk undef hi)
    · exact All2.of_get .unk undef h2.length fun i hi => keep_simp hβ hH (belowL_get h.2 i hi).1 (h2.get i .unk undef hi)
  all_goals (simp only [CellR] at hv ⊢; refine keep_simp hβ hH ?_ hv; exact h)
theorem keep_val (hβ : ∀ j, j < n → ∀ b, E.β j = some b → E'.β j = some b) (hH : ∀ b o v, E.H b o = some v → E'.H b o = some v) {v : AV} {u : Value} (h : belowV n v = true) (hm : noTk v = true) (hv : ValR P E cur v u) : ValR P E' cur' v u := by
  cases v
  case agg cs =>
    obtain ⟨vs, hu, h1⟩ := hv
    refine ⟨vs, hu, All2.of_get .unk undef h1.length fun i hi => ?_⟩
    obtain ⟨q1, q2⟩ := belowL_get h i hi
    have hx := h1.get i .unk undef hi
    refine keep_cell hβ hH ?_ q2 hx
    generalize lget cs i .unk = x at q1 q2 hx
    cases x
    case agg => simp [below1] at q1
    case fn f a c => cases a <;> cases c <;> simp [below1] at q1; rfl
    all_goals exact q1
  all_goals (refine valR_of_cell (keep_cell (cur := cur) hβ hH ?_ hm ?_); exact h; exact hv)
end
end
end Go.AI

/-
  WHAT THE INTERPRETER SAYS OF A FUNCTION IS SO. Nothing here is about one program.
-/
set_option linter.unusedVariables false
set_option linter.unusedSimpArgs false
namespace Go.AI

section
variable {P : Program} {glob : Nat → Option AV} {ρ : FuncId → Fn} {E : Env} {S : Start} {M : Mem} {cur : Cur} {U : Nat → Prop} {w : World}

/-- the boxes, and a result or what was thrown -/
theorem finish_ok {fn : Func} {n : Nat} {sl : List AV} {tmps : Array Value} {md : Md} {res : Res} (h : finish P fn n some sl md M cur = some res)
    (hw : WR P E S M cur U w) (hs : SlW P E cur sl tmps) {E0 : Env} (hk : ∀ j, j < n → ∀ b, E0.β j = some b → E.β j = some b) :
    (md = .ret → ∃ v, (results fn tmps).run P w = .ok v w ∧ Post P E0 S n res (.returned v) w) ∧
    (∀ v v1, md = .pan v → CR P E.H v v1 → Post P E0 S n res (.panicked [{ v := v1, recovered := false }]) w) := by
  unfold finish at h
  split at h
  · cases h
  · rename_i os hos
    cases hb : belowOs n os
    · simp [hb] at h
    · simp only [hb, cond_true] at h
      obtain ⟨q1, q2, q3⟩ := fin_os hw hos hb
      have hkeep : ∀ j, j < n → ∀ b, E0.β j = some b → (headE E cur M n fun _ => none).β j = some b := fun j hj b hbj => by
        simp only [headE]; rw [if_pos hj]; exact hk j hj b hbj
      refine ⟨fun hmd => ?_, fun v v1 hmd hc => ?_⟩
      · subst hmd
        simp only at h
        split at h
        · rename_i vs hvs
          cases hbv : belowAll n vs
          · simp [hbv] at h
          · simp only [hbv, cond_true, Option.some.injEq] at h
            subst h
            obtain ⟨u, r1, r2, r3⟩ := results_run (M2 := M) (c := cur0) hw hs hvs hbv
            exact ⟨u, r1, q1, q2, _, _, hkeep, q3, r2, r3⟩
        · cases h
      · subst hmd
        simp only [Option.some.injEq] at h
        subst h
        exact ⟨q1, q2, _, _, hkeep, q3, v1, rfl, hc⟩

theorem keepSl_get (n : Nat) : ∀ (sl : List AV) (t : Nat), lget (keepSl n sl) t .unk = .unk ∨ (lget (keepSl n sl) t .unk = lget sl t .unk ∧ belowV n (lget sl t .unk) = true ∧ noTk (lget sl t .unk) = true)
  | [], t => .inl (by cases t <;> rfl)
  | v :: l, 0 => by
    simp only [keepSl, lget]
    cases h : (belowV n v && noTk v)
    · exact .inl rfl
    · rw [Bool.and_eq_true] at h
      exact .inr ⟨rfl, h.1, h.2⟩
  | v :: l, t + 1 => by simp only [keepSl, lget]; exact keepSl_get n l t

/-- the mode of a frame that is being left -/
def ModeR (P : Program) (E : Env) : Md → FrameMode → Prop
  | .ret, u => u = .returning
  | .pan v, u => ∃ v1, u = .panicking [{ v := v1, recovered := false }] ∧ CR P E.H v v1

theorem recHead_spec {c : Code} {d d1 : Nat} {c' : Code} (h : recHead c = some (d, d1, c')) : ∃ id o o' A T, c = .seq (.region id #[o, o'] false) c' ∧ o.op = .call { callee := .builtin .recover, args := A, argTypes := T } ∧ o.dst = some d ∧ o.guard = none ∧ o'.op = .assign (.tmp d) ∧ o'.dst = some d1 ∧ o'.guard = none := by
  unfold recHead at h
  split at h
  · rename_i id ops c0
    split at h
    · rename_i o o' hops
      split at h
      · rename_i A T d0 d' d2 h1 h2 h3 h4 h5 h6
        cases hb : Nat.beq d0 d'
        · simp [hb] at h
        · have := Nat.eq_of_beq_eq_true hb
          subst this
          simp only [hb, cond_true, Option.some.injEq, Prod.mk.injEq] at h
          obtain ⟨rfl, rfl, rfl⟩ := h
          refine ⟨id, o, o', A, T, ?_, h1, h2, h3, h4, h5, h6⟩
          congr 2
          exact Array.ext' hops
      · cases h
    · cases h
  · cases h

theorem SlR.lset {sl : List AV} {tmps : Array Value} (h : SlR P E cur sl tmps) {v : AV} {u : Value} (hv : TupR P E cur v u) (d : Nat) : SlR P E cur (AI.lset sl d v) (tmps.setIfInBounds d u) := by
  refine ⟨by simp [lset_length, h.1], fun t ht => ?_⟩
  rw [lset_length] at ht
  by_cases hd : d = t
  · subst hd
    rw [lget_lset_same _ _ _ _ ht]
    have : (tmps.setIfInBounds d u).getD d undef = u := by
      rw [Array.getD_eq_getD_getElem?, Array.getElem?_setIfInBounds_self_of_lt (by rw [← h.1]; exact ht)]; rfl
    rw [this]; exact hv
  · rw [lget_lset_ne _ _ _ _ _ hd]
    have : (tmps.setIfInBounds d u).getD t undef = tmps.getD t undef := by
      rw [Array.getD_eq_getD_getElem?, Array.getD_eq_getD_getElem?, Array.getElem?_setIfInBounds_ne hd]
    rw [this]; exact h.2 t ht

theorem noDraw_ok : ∀ {c : Code}, noDraw c = true → drawsOk c = true
  | .skip, _ => rfl
  | .region _ ops draw, h => by
    simp only [noDraw] at h
    simp [drawsOk, h]
  | .seq a b, h => by
    simp only [noDraw, Bool.and_eq_true] at h
    simp [drawsOk, noDraw_ok h.1, noDraw_ok h.2]
  | .cond _ a b, h => by
    simp only [noDraw, Bool.and_eq_true] at h
    simp [drawsOk, noDraw_ok h.1, noDraw_ok h.2]
  | .block _ c, h => noDraw_ok (c := c) h
  | .loop c, h => noDraw_ok (c := c) h
  | .rangeFunc _ _ _ _, _ => rfl
  | .exit _, _ => rfl
  | .scope c, h => noDraw_ok (c := c) h
  | .label _, _ => rfl
  | .goto _, _ => rfl
  | .ret, _ => rfl
  | .refuse _, _ => rfl

theorem leave_ok (hρ : ∀ g, Sound P glob (ρ g) g) (hg : GlobR P S glob) (hm : P.follows .mixedOrders = true) (fuel : Nat) {fn : Func} {n : Nat} {E0 : Env} {tmps : Array Value} {res : Res} :
    ∀ (ds : Defs) {xs : List Deferred} {sl : List AV} {md : Md} {u : FrameMode} {E : Env} {M : Mem} {cur : Cur} {nx : Nat} {w : World}, leave P glob ρ (loopN fuel) jpId fn n some ds sl md M cur nx = some res →
      WR P E S M cur (fun k => k < nx) w → SlW P E cur sl tmps → n ≤ nx → (∀ j, j < n → ∀ b, E0.β j = some b → E.β j = some b) → All2 (DefR P E cur) ds xs → ModeR P E md u →
      Leaves P fn tmps (fun e w' => Post P E0 S n res e w') xs u w
  | [], xs, sl, md, u, E, M, cur, nx, w, h, hw, hs, hn, hk, hd, hmode => by
    rw [hd.nil_left]
    have h : finish P fn n some sl md M cur = some res := h
    obtain ⟨f1, f2⟩ := finish_ok h hw hs hk
    cases md with
    | ret =>
      have : u = .returning := hmode
      subst this
      exact f1 rfl
    | pan v =>
      obtain ⟨v1, rfl, hc⟩ := hmode
      exact f2 v v1 rfl hc
  | (g, args) :: ds, xs, sl, md, u, E, M, cur, nx, w, h, hw, hs, hn, hk, hd, hmode => by
    obtain ⟨x, xs', rfl, ⟨vs, cap, rfl, hargs, hno⟩, hd'⟩ := hd.cons_left
    simp only [leave] at h
    cases hf : P.funcs[g]? with
    | none => simp [hf] at h
    | some fg =>
      simp only [hf] at h
      cases hcheck : (fg.name == "runtime.NumGoroutine" || !(belowDs nx ds))
      · simp only [hcheck, cond_false] at h
        rw [Bool.or_eq_false_iff] at hcheck
        obtain ⟨hname, hbd⟩ := hcheck
        have hbd : belowDs nx ds = true := by simpa using hbd
        cases hb : fg.body with
        | none => simp [hb] at h
        | some c =>
          simp only [hb] at h
          cases hnd : noDraw c
          · simp [hnd] at h
          simp only [hnd, cond_true] at h
          have hdrc := noDraw_ok hnd
          have hur : u ≠ .run := by
            cases md with
            | ret => intro e; rw [show u = .returning from hmode] at e; cases e
            | pan v => obtain ⟨v1, e, _⟩ := hmode; rw [e]; simp
          have hname' : fg.name ≠ "runtime.NumGoroutine" := by simpa using hname
          have hinv : (invoke (.fn (.func g) cap.toArray) vs.toArray).run P w = .ok (.enter g (vs ++ cap).toArray) w := by
            simp [invoke, callFunc, hf, hname', hb]
          -- where the call begins
          have hall : All2 (ValR P E cur) args (vs ++ cap) := hargs
          have hst : SlR P E cur (startSl fg args) ((vs ++ cap).toArray ++ Array.replicate (fg.ntmps - (vs ++ cap).toArray.size) undef) := by
            have hl := hall.length
            have hall2 : All2 (TupR P E cur) (args ++ List.replicate (fg.ntmps - args.length) .undef) ((vs ++ cap) ++ List.replicate (fg.ntmps - args.length) undef) := (hall.mono fun _ _ => tupR_of_val).append (All2.replicate (show TupR P E cur .undef undef from rfl) _)
            have e : ((vs ++ cap).toArray ++ Array.replicate (fg.ntmps - (vs ++ cap).toArray.size) undef) = ((vs ++ cap) ++ List.replicate (fg.ntmps - args.length) undef).toArray := by
              rw [hl]; apply Array.ext'; simp
            rw [e]
            refine ⟨by simpa [startSl] using hall2.length, fun t ht => ?_⟩
            have := hall2.get t .undef undef ht
            have e2 : ((vs ++ cap) ++ List.replicate (fg.ntmps - args.length) undef).toArray.getD t undef = lget ((vs ++ cap) ++ List.replicate (fg.ntmps - args.length) undef) t undef := by
              rw [lget_eq, Array.getD_eq_getD_getElem?, List.getElem?_toArray]; rfl
            rw [e2]
            exact this
          let F : Frm := ⟨againS S E w, nx, E.β⟩
          have hgF : GlobR P F.S glob := hg.next hw rfl hw.ext fun b hb => hb
          -- what holds behind the call
          have next : ∀ {md' : Md} {u' : FrameMode} {M' : Mem} {cur' : Cur} {nx' : Nat} {E' : Env} {w' : World}, leave P glob ρ (loopN fuel) jpId fn n some ds (keepSl nx sl) md' M' cur' nx' = some res →
              WR P E' F.S M' cur' (fun k => k < nx') w' → nx ≤ nx' → (∀ j, j < nx → ∀ b, E.β j = some b → E'.β j = some b) → ModeR P E' md' u' → Leaves P fn tmps (fun e w' => Post P E0 S n res e w') xs' u' w' := by
            intro md' u' M' cur' nx' E' w' h1 hW' hnx hβ' hm'
            have hH : ∀ b o v, E.H b o = some v → E'.H b o = some v := hW'.ext
            refine leave_ok hρ hg hm fuel ds h1 (hw.back hW') (fun t => ?_) (Nat.le_trans hn hnx) (fun j hj b hbj => hβ' j (Nat.lt_of_lt_of_le hj hn) b (hk j hj b hbj)) ?_ hm'
            · rcases keepSl_get nx sl t with e | ⟨e, e1, e2⟩
              · rw [e]; exact tupR_of_cell (by trivial)
              · rw [e]
                have hv := hs t
                refine tupR_of_val (keep_val (cur := cur) hβ' hH e1 e2 ?_)
                generalize lget sl t .unk = v at e1 hv
                cases v
                case tup cs => simp [belowV, below1] at e1
                all_goals exact hv
            · have go : ∀ {ds : Defs} {xs : List Deferred}, belowDs nx ds = true → All2 (DefR P E cur) ds xs → All2 (DefR P E' cur') ds xs := by
                intro ds
                induction ds with
                | nil => intro xs _ h; rw [h.nil_left]; trivial
                | cons d ds ih =>
                  intro xs hb h
                  obtain ⟨g2, args2⟩ := d
                  obtain ⟨x, xs2, rfl, ⟨vs2, cap2, e, q1, q2⟩, h2⟩ := h.cons_left
                  simp only [belowDs] at hb
                  cases hx : belowAll nx args2
                  · simp [hx] at hb
                  · simp only [hx, cond_true] at hb
                    refine ⟨⟨vs2, cap2, e, All2.of_get .unk undef q1.length fun i hi => ?_, q2⟩, ih hb h2⟩
                    have hok := noTks_mem q2 (lget args2 i .unk) (by rw [lget_eq, List.getD, List.getElem?_eq_getElem hi]; exact List.getElem_mem hi)
                    have hbl := belowAll_get hx i hi
                    refine keep_val (cur := cur) hβ' hH hbl ?_ (q1.get i .unk undef hi)
                    generalize lget args2 i .unk = v at hok
                    cases v <;> first | exact hok | rfl
              exact go hbd hd'
          refine ⟨hur, .func g, cap.toArray, g, (vs ++ cap).toArray, rfl, hinv, ?_⟩
          cases hrec : recHead c with
          | none =>
            simp only [hrec] at h
            have hrun := run_ok (F := F) hρ hgF hm fuel c hdrc h (a := { tmps := (vs ++ cap).toArray ++ Array.replicate (fg.ntmps - (vs ++ cap).toArray.size) undef, defers := [] }) ⟨E, hw.again, hst, Nat.le_refl _, fun j hj b hb => hb, trivial⟩
            refine (callsD_of_wp (u := u) (R := fun e w' => match e with
              | .returned _ => Leaves P fn tmps (fun e w' => Post P E0 S n res e w') xs' (settle u) w'
              | _ => False) hf hb (wp_mono hrun fun e a1 w1 he => ?_)).mono fun e u' w' hR => ?_
            · have fin : ∀ {e : Ex} {sl1 : List AV} {M1 : Mem} {c1 : Cur} {n1 : Nat} {ds1 : Defs}, (e = .normal ∨ e = .ret) → offK fg (fun M' cur' nx' => leave P glob ρ (loopN fuel) jpId fn n some ds (keepSl nx sl) md M' cur' nx') e sl1 M1 c1 n1 ds1 = some res → At P F sl1 M1 c1 n1 ds1 a1 w1 →
                  a1.defers = [] ∧ ∃ v, (results fg a1.tmps).run P w1 = .ok v w1 ∧ Leaves P fn tmps (fun e w' => Post P E0 S n res e w') xs' (settle u) w1 := by
                intro e sl1 M1 c1 n1 ds1 hee h1 hat
                obtain ⟨E1, hw1, hs1, hn1, hk1, hd1⟩ := hat
                unfold offK at h1
                cases ds1 with
                | cons _ _ => simp at h1
                | nil =>
                  have h2 : (match fg.results.toList with
                    | [] => leave P glob ρ (loopN fuel) jpId fn n some ds (keepSl nx sl) md M1 c1 n1
                    | _ => none) = some res := by rcases hee with rfl | rfl <;> exact h1
                  split at h2
                  · rename_i hres
                    have hr : fg.results = #[] := by simpa using hres
                    refine ⟨hd1.nil_left, .tuple #[], by simp [results, hr], ?_⟩
                    have hset : settle u = u := by
                      cases md with
                      | ret => rw [show u = .returning from hmode]; rfl
                      | pan v => obtain ⟨v1, e, _⟩ := hmode; rw [e]; rfl
                    rw [hset]
                    refine next h2 hw1 hn1 hk1 ?_
                    cases md with
                    | ret => exact hmode
                    | pan v => obtain ⟨v1, e, hc⟩ := hmode; exact ⟨v1, e, hc.mono hw1.ext⟩
                  · cases h2
              cases e with
              | normal => obtain ⟨sl1, M1, c1, n1, ds1, h1, hat⟩ := he; exact fin (.inl rfl) h1 hat
              | ret => obtain ⟨sl1, M1, c1, n1, ds1, h1, hat⟩ := he; exact fin (.inr rfl) h1 hat
              | exit id =>
                obtain ⟨sl1, M1, c1, n1, ds1, h1, hat⟩ := he
                unfold offK at h1
                cases ds1 <;> simp at h1
              | panic ch =>
                obtain ⟨sl1, M1, c1, n1, ds1, v, v1, E1, h1, _⟩ := he
                unfold offK at h1
                cases ds1 <;> simp at h1
              | _ => exact he.elim
            · obtain ⟨rfl, hR⟩ := hR
              cases e with
              | returned v => exact hR
              | _ => exact hR.elim
          | some y =>
            obtain ⟨d, d1, c'⟩ := y
            simp only [hrec] at h
            cases hdlt0 : Nat.blt d (startSl fg args).length
            · simp [hdlt0] at h
            simp only [hdlt0, cond_true] at h
            have hdlt : d < (startSl fg args).length := Nat.le_of_ble_eq_true hdlt0
            obtain ⟨id, o, o', A, T, rfl, ho1, ho2, ho3, ho4, ho5, ho6⟩ := recHead_spec hrec
            simp only [drawsOk, Bool.and_eq_true] at hdrc
            refine callsD_of_wpS hf hb fun c₀ cs hc₀ => ?_
            refine wpS_seq (wpS_region ?_)
            have hrun0 : ∀ a : Act, (execOp a.eval o).run P w = .ok .recover w := by
              intro a
              simp [execOp, ho1, resolve, invoke, builtin]
            have hrun1 : ∀ a : Act, (execOp a.eval o').run P w = .ok (.value (a.eval (.tmp d))) w := by
              intro a
              simp [execOp, ho4]
            have hw0 : ∀ t, Region.wanted o (yielded #[o, o'] t) = true := fun t => by simp [Region.wanted, ho3]
            have hw1 : ∀ t, Region.wanted o' (yielded #[o, o'] t) = true := fun t => by simp [Region.wanted, ho6]
            -- the two operations, and the rest
            have rest : ∀ {v1 : Value} {u2 : FrameMode}, TupR P E cur (mdVal md) v1 → settle u2 = .returning →
                Exit.thenS (c'.wpS P (bodyPostS P fg c₀ cs fun e u' w' => match e, u', w' with
                  | .returned _, u', w' => Leaves P fn tmps (fun e w' => Post P E0 S n res e w') xs' (settle u') w'
                  | .panicked chain, u', w' => Leaves P fn tmps (fun e w' => Post P E0 S n res e w') xs' (raised u' chain) w'
                  | .outgrown, _, w' => Post P E0 S n res .outgrown w'))
                  (bodyPostS P fg c₀ cs fun e u' w' => match e, u', w' with
                  | .returned _, u', w' => Leaves P fn tmps (fun e w' => Post P E0 S n res e w') xs' (settle u') w'
                  | .panicked chain, u', w' => Leaves P fn tmps (fun e w' => Post P E0 S n res e w') xs' (raised u' chain) w'
                  | .outgrown, _, w' => Post P E0 S n res .outgrown w') .normal
                  { tmps := (((vs ++ cap).toArray ++ Array.replicate (fg.ntmps - (vs ++ cap).toArray.size) undef).setIfInBounds d v1).setIfInBounds d1 ((((vs ++ cap).toArray ++ Array.replicate (fg.ntmps - (vs ++ cap).toArray.size) undef).setIfInBounds d v1).getD d undef), defers := [] }
                  ({ c₀ with mode := u2 } :: cs) w := by
              intro v1 u2 hv1 hset
              refine wpS_of_wp ?_
              have hval : (((vs ++ cap).toArray ++ Array.replicate (fg.ntmps - (vs ++ cap).toArray.size) undef).setIfInBounds d v1).getD d undef = v1 := by
                rw [Array.getD_eq_getD_getElem?, Array.getElem?_setIfInBounds_self_of_lt (by rw [← hst.1]; exact hdlt)]; rfl
              rw [hval]
              have hrun := run_ok (F := F) hρ hgF hm fuel c' hdrc.2 h (a := { tmps := (((vs ++ cap).toArray ++ Array.replicate (fg.ntmps - (vs ++ cap).toArray.size) undef).setIfInBounds d v1).setIfInBounds d1 v1, defers := [] })
                ⟨E, hw.again, (hst.lset hv1 d).lset hv1 d1, Nat.le_refl _, fun j hj b hb => hb, trivial⟩
              refine wp_mono hrun fun e a1 w1 he => ?_
              have fin : ∀ {e : Ex} {sl1 : List AV} {M1 : Mem} {c1 : Cur} {n1 : Nat} {ds1 : Defs}, (e = .normal ∨ e = .ret) → offK fg (fun M' cur' nx' => leave P glob ρ (loopN fuel) jpId fn n some ds (keepSl nx sl) .ret M' cur' nx') e sl1 M1 c1 n1 ds1 = some res → At P F sl1 M1 c1 n1 ds1 a1 w1 →
                  a1.defers = [] ∧ ∃ v, (results fg a1.tmps).run P w1 = .ok v w1 ∧ Leaves P fn tmps (fun e w' => Post P E0 S n res e w') xs' (settle u2) w1 := by
                intro e sl1 M1 c1 n1 ds1 hee h1 hat
                obtain ⟨E1, hw1, hs1, hn1, hk1, hd1⟩ := hat
                unfold offK at h1
                cases ds1 with
                | cons _ _ => simp at h1
                | nil =>
                  have h2 : (match fg.results.toList with
                    | [] => leave P glob ρ (loopN fuel) jpId fn n some ds (keepSl nx sl) .ret M1 c1 n1
                    | _ => none) = some res := by rcases hee with rfl | rfl <;> exact h1
                  split at h2
                  · rename_i hres
                    have hr : fg.results = #[] := by simpa using hres
                    refine ⟨hd1.nil_left, .tuple #[], by simp [results, hr], ?_⟩
                    rw [hset]
                    exact next h2 hw1 hn1 hk1 rfl
                  · cases h2
              cases e with
              | normal => obtain ⟨sl1, M1, c1, n1, ds1, h1, hat⟩ := he; obtain ⟨f1, v, f2, f3⟩ := fin (.inl rfl) h1 hat; exact ⟨f1, u2, rfl, v, f2, f3⟩
              | ret => obtain ⟨sl1, M1, c1, n1, ds1, h1, hat⟩ := he; obtain ⟨f1, v, f2, f3⟩ := fin (.inr rfl) h1 hat; exact ⟨f1, u2, rfl, v, f2, f3⟩
              | exit id =>
                obtain ⟨sl1, M1, c1, n1, ds1, h1, hat⟩ := he
                unfold offK at h1
                cases ds1 <;> simp at h1
              | panic ch =>
                obtain ⟨sl1, M1, c1, n1, ds1, v, v1, E1, h1, _⟩ := he
                unfold offK at h1
                cases ds1 <;> simp at h1
              | _ => exact he.elim
            have hrange : List.range (#[o, o'] : Array Oper).size = [0, 1] := rfl
            rw [hrange]
            have hmd := hmode
            cases md with
            | ret =>
              have hu : u = .returning := hmode
              have hrd : recoverD (c₀ :: cs) = none := by simp [recoverD, hc₀, hu]
              have hs0 := rest (v1 := .nilIface) (u2 := u) (CR.nili) (by rw [hu]; rfl)
              have e0 : ({ c₀ with mode := u } : Frame) = c₀ := by rw [← hc₀]
              rw [e0] at hs0
              simp only [wpOpsS, List.getElem?_toArray, List.getElem?_cons_zero, List.getElem?_cons_succ, hw0, hw1, if_true, hrun0, hrd, ho2, ho5, Act.put, hrun1, Oper.upon]
              exact hs0
            | pan v =>
              obtain ⟨v1, hu, hc⟩ := hmode
              have hrd : recoverD (c₀ :: cs) = some (v1, { c₀ with mode := .panicking [{ v := v1, recovered := true }] } :: cs) := by simp [recoverD, hc₀, hu]
              have hs0 := rest (v1 := v1) (u2 := .panicking [{ v := v1, recovered := true }]) (by cases v <;> first | exact tupR_of_cell (by trivial) | exact hc) rfl
              simp only [wpOpsS, List.getElem?_toArray, List.getElem?_cons_zero, List.getElem?_cons_succ, hw0, hw1, if_true, hrun0, hrd, ho2, ho5, Act.put, hrun1, Oper.upon]
              exact hs0
      · simp [hcheck] at h
end
end Go.AI

/-
  WHAT FOLLOWS MAY BE TAKEN OUT; a function of the program, sound. Nothing here is about one program.
-/
set_option linter.unusedVariables false
set_option linter.unusedSimpArgs false
namespace Go.AI

/-- what follows may be taken out -/
def NatF (F : Fn) : Prop := ∀ args os (K φ : Res → Option Res), F args os (fun r => (K r).bind φ) = (F args os K).bind φ

theorem cond_bind {α β : Type} (c : Bool) (x y : Option α) (φ : α → Option β) : (cond c x y).bind φ = cond c (x.bind φ) (y.bind φ) := by cases c <;> rfl

section
variable {P : Program} {glob : Nat → Option AV} {ρ : FuncId → Fn}

theorem runRd_nat (hρ : ∀ g, NatF (ρ g)) (M : Mem) (cur : Cur) (φ : Res → Option Res) : ∀ (r : Rd) (rds : List Nat) (tks : List Tok) (K : Out → Option Res),
    runRd ρ M cur r rds tks (fun o => (K o).bind φ) = (runRd ρ M cur r rds tks K).bind φ
  | .fail, rds, tks, K => rfl
  | .read id k, rds, tks, K => by
    simp only [runRd]
    cases M id with
    | none => rfl
    | some o => exact runRd_nat hρ M cur φ (k o) _ _ K
  | .tok k f, rds, tks, K => by simp only [runRd]; exact runRd_nat hρ M cur φ (f (cur k)) _ _ K
  | .guard c r, rds, tks, K => by
    simp only [runRd]
    cases c
    · rfl
    · exact runRd_nat hρ M cur φ r _ _ K
  | .pan v, rds, tks, K => rfl
  | .ret v up vers, rds, tks, K => rfl
  | .call g args ids os kl n ro, rds, tks, K => by
    simp only [runRd]
    rw [← hρ g args os _ φ]
    congr 1
    funext r
    cases r with
    | ok v os' =>
      simp only
      split
      · rename_i v' os2 h1 h2
        rw [cond_bind]
        cases ro
        · rfl
        · simp only [cond_true]
          rw [keptK_bind]
          rfl
      · rfl
    | pan v os' =>
      simp only
      split
      · rename_i os2 h2
        rw [cond_bind]; rfl
      · rfl

theorem guardK_nat (ops : List Oper) (o : Oper) (sl : List AV) (k : Bool → List AV → Option Res) (φ : Res → Option Res) : guardK ops o sl (fun b s => (k b s).bind φ) = (guardK ops o sl k).bind φ := by
  unfold guardK
  split
  · rfl
  · rename_i g want h
    split
    · rfl
    · rename_i d hd
      split
      · rw [cond_bind]
      · rfl
      · rfl
theorem pickK_nat (o : Oper) (sl : List AV) (k : List AV → Option Res) (φ : Res → Option Res) : pickK o sl (fun s => (k s).bind φ) = (pickK o sl k).bind φ := by
  unfold pickK
  split
  · split
    · rw [cond_bind]
    · rfl
  · rfl

theorem runOps_nat (hρ : ∀ g, NatF (ρ g)) (ops : List Oper) (B : Nat) (φ : Res → Option Res) : ∀ (rest : List Oper) (j : Nat) (sl : List AV) (M : Mem) (cur : Cur) (tr : List Tr) (k : List AV → Mem → Cur → List Tr → Option Res) (kp : AV → List AV → Mem → Cur → List Tr → Nat → Option Res),
    runOps P glob ρ ops B rest j sl M cur tr (fun a b c d => (k a b c d).bind φ) (fun a b c d e f => (kp a b c d e f).bind φ) = (runOps P glob ρ ops B rest j sl M cur tr k kp).bind φ
  | [], j, sl, M, cur, tr, k, kp => rfl
  | o :: rest, j, sl, M, cur, tr, k, kp => by
    simp only [runOps]
    rw [← guardK_nat]
    congr 1
    funext want sl1
    cases want with
    | false => exact runOps_nat hρ ops B φ rest _ _ _ _ _ k kp
    | true =>
      simp only
      rw [← pickK_nat]
      congr 1
      funext sl2
      rw [← runRd_nat hρ]
      congr 1
      funext out
      cases out with
      | val v up vers rds tks =>
        simp only [forceV_eq, forceU_eq, forceS_eq]
        exact runOps_nat hρ ops B φ rest _ _ _ _ _ k kp
      | pan v up vers rds tks => rfl

def bindK (k : Kont) (φ : Res → Option Res) : Kont := fun e sl M cur nx ds => (k e sl M cur nx ds).bind φ
def RNat (rb : RunB) : Prop := ∀ sl M cur nx ds (k : Kont) (φ : Res → Option Res), rb sl M cur nx ds (bindK k φ) = (rb sl M cur nx ds k).bind φ

theorem runRegion_nat (hρ : ∀ g, NatF (ρ g)) (ops : Array Oper) (draw : Bool) : RNat (runRegion P glob ρ ops draw) := by
  intro sl M cur nx ds k φ
  unfold runRegion
  split
  · rw [← runOps_nat hρ]
    congr 1
    · funext a b c d
      rw [cond_bind]; rfl
    · funext a b c d e f
      rw [cond_bind]; rfl
  · rename_i pre f args h
    rw [cond_bind, ← runOps_nat hρ]
    congr 2
    funext a b c d
    unfold deferK
    split
    · simp only [forceVs_eq]
      rw [cond_bind]; rfl
    · rfl
theorem thenK_nat {rb : RunB} (h : RNat rb) (m : Nat) (k : Kont) (φ : Res → Option Res) : thenK rb m (bindK k φ) = bindK (thenK rb m k) φ := by
  funext e sl M cur nx ds
  cases e <;> first | exact h _ _ _ _ _ _ _ | rfl
theorem blockK_nat (id : Nat) (k : Kont) (φ : Res → Option Res) : blockK id (bindK k φ) = bindK (blockK id k) φ := by
  funext e sl M cur nx ds
  cases e <;> first | (simp only [blockK, bindK]; rw [cond_bind]) | rfl
theorem toHead_nat (keep : Nat) (B : Nat) (sl : List AV) (M : Mem) (cur : Cur) (ds : Defs) (K : List AV → MemL → Option Res) (φ : Res → Option Res) : toHead keep B sl M cur ds (fun a b => (K a b).bind φ) = (toHead keep B sl M cur ds K).bind φ := by
  unfold toHead
  simp only [forceL_eq, forceU_eq]
  rw [cond_bind]; rfl
theorem backK_nat (go : List AV → MemL → Defs → Option Res) (keep : Nat) (B : Nat) (k : Kont) (φ : Res → Option Res) : backK (fun a b c => (go a b c).bind φ) keep B (bindK k φ) = bindK (backK go keep B k) φ := by
  funext e sl M cur nx ds
  cases e <;> first | exact toHead_nat _ _ _ _ _ _ _ _ | rfl
theorem seqK_nat {rb : RunB} (h : RNat rb) (j : Bool) (keep m : Nat) (k : Kont) (φ : Res → Option Res) : seqK jpId j keep rb m (bindK k φ) = bindK (seqK jpId j keep rb m k) φ := by
  cases j
  · exact thenK_nat h m k φ
  · funext e sl M cur nx ds
    cases e <;> first
      | rfl
      | (show toHead _ _ _ _ _ _ (fun sl0 l0 => jpId rb (Nat.max nx m) sl0 l0 ds (bindK k φ)) = (toHead _ _ _ _ _ _ (fun sl0 l0 => jpId rb (Nat.max nx m) sl0 l0 ds k)).bind φ
         rw [← toHead_nat]
         congr 1
         funext sl0 l0
         exact h _ _ _ _ _ _ _)
theorem loopN_nat {body : RunB} (h : RNat body) (keep : Nat) (B : Nat) (k : Kont) (φ : Res → Option Res) : ∀ (n : Nat) (sl : List AV) (l : MemL) (ds : Defs), loopN n body keep B sl l ds (bindK k φ) = (loopN n body keep B sl l ds k).bind φ
  | 0, sl, l, ds => rfl
  | n + 1, sl, l, ds => by
    show body sl (memL l) cur0 B ds (backK (fun sl l ds => loopN n body keep B sl l ds (bindK k φ)) keep B (bindK k φ)) = (body sl (memL l) cur0 B ds (backK (fun sl l ds => loopN n body keep B sl l ds k) keep B k)).bind φ
    rw [← h, ← backK_nat]
    congr 2
    funext sl l ds
    exact loopN_nat h keep B k φ n sl l ds

theorem run_nat (hρ : ∀ g, NatF (ρ g)) (fuel : Nat) : ∀ (c : Code) (lv : Nat), RNat (run P glob ρ (loopN fuel) jpId c lv)
  | .skip, lv => fun _ _ _ _ _ _ _ => rfl
  | .region _ ops draw, lv => runRegion_nat hρ ops draw
  | .seq a b, lv => fun sl M cur nx ds k φ => by
    show run P glob ρ (loopN fuel) jpId a (Nat.lor (readsOf b) lv) sl M cur nx ds (seqK jpId (isJoin a b) (Nat.lor (readsOf b) lv) (run P glob ρ (loopN fuel) jpId b lv) (nx + opsIn a) (bindK k φ)) = (run P glob ρ (loopN fuel) jpId a (Nat.lor (readsOf b) lv) sl M cur nx ds (seqK jpId (isJoin a b) (Nat.lor (readsOf b) lv) (run P glob ρ (loopN fuel) jpId b lv) (nx + opsIn a) k)).bind φ
    rw [seqK_nat (run_nat hρ fuel b lv)]
    exact run_nat hρ fuel a _ _ _ _ _ _ _ _
  | .cond c x y, lv => fun sl M cur nx ds k φ => by
    cases c with
    | tmp t =>
      show (match lget sl t .unk with
        | .b b => cond b (run P glob ρ (loopN fuel) jpId x lv (lset sl t (.b true)) M cur nx ds (bindK k φ)) (run P glob ρ (loopN fuel) jpId y lv (lset sl t (.b false)) M cur nx ds (bindK k φ))
        | _ => none) = (match lget sl t .unk with
        | .b b => cond b (run P glob ρ (loopN fuel) jpId x lv (lset sl t (.b true)) M cur nx ds k) (run P glob ρ (loopN fuel) jpId y lv (lset sl t (.b false)) M cur nx ds k)
        | _ => none).bind φ
      split
      · rw [cond_bind, run_nat hρ fuel x, run_nat hρ fuel y]
      · rfl
    | _ => rfl
  | .block id c, lv => fun sl M cur nx ds k φ => by
    show run P glob ρ (loopN fuel) jpId c lv sl M cur nx ds (blockK id (bindK k φ)) = (run P glob ρ (loopN fuel) jpId c lv sl M cur nx ds (blockK id k)).bind φ
    rw [blockK_nat]
    exact run_nat hρ fuel c lv _ _ _ _ _ _ _
  | .loop c, lv => fun sl M cur nx ds k φ => by
    show toHead (Nat.lor (readsOf c) lv) nx sl M cur ds (fun sl0 l0 => loopN fuel (run P glob ρ (loopN fuel) jpId c (Nat.lor (readsOf c) lv)) (Nat.lor (readsOf c) lv) nx sl0 l0 ds (bindK k φ)) =
      (toHead (Nat.lor (readsOf c) lv) nx sl M cur ds (fun sl0 l0 => loopN fuel (run P glob ρ (loopN fuel) jpId c (Nat.lor (readsOf c) lv)) (Nat.lor (readsOf c) lv) nx sl0 l0 ds k)).bind φ
    rw [← toHead_nat]
    congr 1
    funext sl0 l0
    exact loopN_nat (run_nat hρ fuel c _) _ _ _ _ _ _ _ _
  | .rangeFunc _ _ _ _, lv => fun _ _ _ _ _ _ _ => rfl
  | .exit _, lv => fun _ _ _ _ _ _ _ => rfl
  | .scope _, lv => fun _ _ _ _ _ _ _ => rfl
  | .label _, lv => fun _ _ _ _ _ _ _ => rfl
  | .goto _, lv => fun _ _ _ _ _ _ _ => rfl
  | .ret, lv => fun _ _ _ _ _ _ _ => rfl
  | .refuse _, lv => fun _ _ _ _ _ _ _ => rfl

theorem finish_nat (fn : Func) (n : Nat) (K φ : Res → Option Res) (sl : List AV) (md : Md) (M : Mem) (cur : Cur) : finish P fn n (fun r => (K r).bind φ) sl md M cur = (finish P fn n K sl md M cur).bind φ := by
  unfold finish
  split
  · rfl
  · rw [cond_bind]
    congr 1
    cases md with
    | pan v => rfl
    | ret =>
      simp only
      split
      · rw [cond_bind]; rfl
      · rfl
theorem offK_nat (fg : Func) (K : Mem → Cur → Nat → Option Res) (φ : Res → Option Res) : offK fg (fun a b c => (K a b c).bind φ) = bindK (offK fg K) φ := by
  funext e sl M cur nx ds
  unfold bindK offK
  cases ds with
  | cons _ _ => rfl
  | nil =>
    cases e <;> first
      | rfl
      | (simp only; split <;> rfl)
theorem leave_nat (hρ : ∀ g, NatF (ρ g)) (fuel : Nat) (fn : Func) (n : Nat) (K φ : Res → Option Res) : ∀ (ds : Defs) (sl : List AV) (md : Md) (M : Mem) (cur : Cur) (nx : Nat),
    leave P glob ρ (loopN fuel) jpId fn n (fun r => (K r).bind φ) ds sl md M cur nx = (leave P glob ρ (loopN fuel) jpId fn n K ds sl md M cur nx).bind φ
  | [], sl, md, M, cur, nx => finish_nat fn n K φ sl md M cur
  | (g, args) :: ds, sl, md, M, cur, nx => by
    have ih : ∀ md sl, (fun M' cur' nx' => leave P glob ρ (loopN fuel) jpId fn n (fun r => (K r).bind φ) ds sl md M' cur' nx') = fun M' cur' nx' => (leave P glob ρ (loopN fuel) jpId fn n K ds sl md M' cur' nx').bind φ := by
      intro md sl
      funext M' cur' nx'
      exact leave_nat hρ fuel fn n K φ ds sl md M' cur' nx'
    simp only [leave]
    split
    · rfl
    · rw [cond_bind]
      congr 1
      split
      · rfl
      · rename_i c _
        rw [cond_bind]
        congr 1
        split
        · rw [ih, offK_nat]; exact run_nat hρ fuel _ _ _ _ _ _ _ _ _
        · rw [cond_bind, ih, offK_nat]
          congr 1
          exact run_nat hρ fuel _ _ _ _ _ _ _ _ _
theorem finK_nat (hρ : ∀ g, NatF (ρ g)) (fuel : Nat) (fn : Func) (n : Nat) (K φ : Res → Option Res) : finK P glob ρ (loopN fuel) jpId fn n (fun r => (K r).bind φ) = bindK (finK P glob ρ (loopN fuel) jpId fn n K) φ := by
  funext e sl M cur nx ds
  cases e <;> first | rfl | exact leave_nat hρ fuel fn n K φ _ _ _ _ _ _
theorem runF_nat (hρ : ∀ g, NatF (ρ g)) (fuel : Nat) (fn : Func) (args : List AV) (os : List AObj) (K φ : Res → Option Res) : runF P glob ρ (loopN fuel) jpId fn args os (fun r => (K r).bind φ) = (runF P glob ρ (loopN fuel) jpId fn args os K).bind φ := by
  unfold runF
  split
  · rw [finK_nat hρ]; exact run_nat hρ fuel _ _ _ _ _ _ _ _ _
  · rfl

/-- a call, as the interpreter has it -/
theorem runF_callee (hρ : ∀ g, Sound P glob (ρ g) g) (hm : P.follows .mixedOrders = true) {g : FuncId} {fn : Func} {c : Code} (hf : P.funcs[g]? = some fn) (hname : (fn.name == "runtime.NumGoroutine") = false) (hb : fn.body = some c) (hdr : drawsOk c = true) (fuel : Nat)
    {args : List AV} {os : List AObj} {res : Res} (h : runF P glob ρ (loopN fuel) jpId fn args os some = some res) {E : Env} {S : Start} {w : World} {vs : List Value} (hSw : S.w = w) (hSH : S.H = E.H) (hg : GlobR P S glob)
    (hw : WR P E S (fun id => lnth os id) cur0 (fun k => k < os.length) w) (hargs : All2 (ValR P E cur0) args vs) : Callee P g vs.toArray w (Post P E S os.length res) := by
  unfold Callee
  have henter : (callFunc g vs.toArray).run P w = .ok (.enter g vs.toArray) w := by
    have h1 : fn.name ≠ "runtime.NumGoroutine" := by simpa using hname
    simp [callFunc, hf, h1, hb]
  rw [henter]
  simp only
  unfold runF at h
  rw [hb] at h
  simp only at h
  refine calls_of_wp_defers hf hb (wp_mono (run_ok (F := ⟨S, os.length, E.β⟩) hρ hg hm fuel c hdr h ⟨E, hw, sl_start hargs fn.ntmps, Nat.le_refl _, fun j hj b hb => hb, trivial⟩) fun e a1 w1 he => ?_)
  cases e with
  | normal =>
    obtain ⟨sl, M, cur, nx, ds, h1, E1, hw1, hs1, hn, hk, hd⟩ := he
    exact leave_ok hρ hg hm fuel ds h1 hw1 hs1.weak hn hk hd rfl
  | ret =>
    obtain ⟨sl, M, cur, nx, ds, h1, E1, hw1, hs1, hn, hk, hd⟩ := he
    exact leave_ok hρ hg hm fuel ds h1 hw1 hs1.weak hn hk hd rfl
  | exit id =>
    obtain ⟨sl, M, cur, nx, ds, h1, _⟩ := he
    simp [finK] at h1
  | panic ch =>
    obtain ⟨sl, M, cur, nx, ds, v, v1, E1, h1, rfl, hw1, hn, hk, hc, hs1, hd⟩ := he
    exact leave_ok hρ hg hm fuel ds h1 hw1 hs1 hn hk hd ⟨v1, rfl, hc⟩
  | _ => exact he.elim

/-- what 'F' says of function g is so, and what follows may be taken out -/
structure SoundN (P : Program) (glob : Nat → Option AV) (F : Fn) (g : FuncId) : Prop where
  sound : Sound P glob F g
  nat : NatF F

theorem sound_runF (hρ : ∀ g, SoundN P glob (ρ g) g) (hm : P.follows .mixedOrders = true) {g : FuncId} {fn : Func} {c : Code} (hf : P.funcs[g]? = some fn) (hname : (fn.name == "runtime.NumGoroutine") = false) (hb : fn.body = some c) (hdr : drawsOk c = true) (fuel : Nat) :
    SoundN P glob (fun args os K => runF P glob ρ (loopN fuel) jpId fn args os K) g := by
  refine ⟨fun args os K R h => ?_, fun args os K φ => runF_nat (fun g => (hρ g).nat) fuel fn args os K φ⟩
  have h2 := runF_nat (P := P) (glob := glob) (fun g => (hρ g).nat) fuel fn args os some K
  have h3 : (fun r => (some r).bind K) = K := rfl
  rw [h3] at h2
  rw [h2] at h
  obtain ⟨res, h4, h5⟩ := Option.bind_eq_some_iff.1 h
  exact ⟨res, h5, fun E S w vs hSw hSH hg hw hargs => runF_callee (fun g => (hρ g).sound) hm hf hname hb hdr fuel h4 hSw hSH hg hw hargs⟩
end
end Go.AI

/-
  SPECS: functions of plain data, as functions of abstract values. Nothing here is about one program.
-/
set_option linter.unusedVariables false
set_option linter.unusedSimpArgs false
namespace Go.AI

/-! ### templates -/
inductive Hole where
  | I (n : Int) | B (b : Bool) | S (l : List UInt8) | R (l : List (List AV)) | C (l : List AV) | M (l : List (AV × AV)) | no
def hI : Hole → Int
  | .I n => n
  | _ => 0
def hB : Hole → Bool
  | .B n => n
  | _ => false
def hS : Hole → List UInt8
  | .S n => n
  | _ => []
def hR : Hole → List (List AV)
  | .R n => n
  | _ => []
def hC : Hole → List AV
  | .C n => n
  | _ => []
def hM : Hole → List (AV × AV)
  | .M n => n
  | _ => []

/-- a cell's form -/
inductive CTm where
  | i (k : IntKind) | b | s | l (e : TypeId) (m : Mark) | ln (e : TypeId) | r (ks : List CT) | p (id off : Nat) | m (id : Nat) | f (g : FuncId) | np | nf | ni | nm
/-- a value's form -/
inductive Tm where
  | c (t : CTm) | agg (l : List CTm) | fn (g : FuncId) (a c : List CTm) | ifc (t : TypeId) (x : CTm) | ifa (t : TypeId) (l : List CTm)
inductive OTm where
  | box (l : List Tm) | map (kk : CT) (et : TypeId)

def markEq : Mark → Mark → Bool
  | .view, .view => true
  | .nil, .nil => true
  | .tk k v, .tk k' v' => decide (k = k') && Nat.beq v v'
  | _, _ => false
theorem markEq_eq {m m' : Mark} (h : markEq m m' = true) : m = m' := by
  cases m <;> cases m' <;> simp only [markEq, Bool.and_eq_true, decide_eq_true_eq] at h <;> first
    | rfl
    | (obtain ⟨rfl, h⟩ := h; rw [Nat.eq_of_beq_eq_true h])
    | (cases h)
def decC : CTm → AV → Option Hole
  | .i k, .i k' n => cond (decide (k = k')) (some (.I n)) none
  | .b, .b x => some (.B x)
  | .s, .s x => some (.S x)
  | .l e m, .lst e' r m' => cond (Nat.beq e e' && markEq m m') (some (.R r)) none
  | .ln e, .lst e' [] .nil => cond (Nat.beq e e') (some .no) none
  | .r ks, .rptr ks' cs => cond (decide (ks = ks')) (some (.C cs)) none
  | .p i o, .ptr i' o' => cond (Nat.beq i i' && Nat.beq o o') (some .no) none
  | .m i, .map i' => cond (Nat.beq i i') (some .no) none
  | .f g, .fn g' [] [] => cond (Nat.beq g g') (some .no) none
  | .np, .nilp => some .no
  | .nf, .nilf => some .no
  | .ni, .nili => some .no
  | .nm, .nilmap => some .no
  | _, _ => none
def encC : CTm → Hole → AV
  | .i k, h => .i k (hI h)
  | .b, h => .b (hB h)
  | .s, h => .s (hS h)
  | .l e m, h => .lst e (hR h) m
  | .ln e, _ => .lst e [] .nil
  | .r ks, h => .rptr ks (hC h)
  | .p i o, _ => .ptr i o
  | .m i, _ => .map i
  | .f g, _ => .fn g [] []
  | .np, _ => .nilp
  | .nf, _ => .nilf
  | .ni, _ => .nili
  | .nm, _ => .nilmap
theorem decC_enc {t : CTm} {v : AV} {h : Hole} (hd : decC t v = some h) : v = encC t h := by
  unfold decC at hd
  split at hd
  · rename_i k k' n
    cases hk : decide (k = k')
    · rw [hk] at hd; cases hd
    · rw [hk] at hd; cases hd; rw [of_decide_eq_true hk]; rfl
  · cases hd; rfl
  · cases hd; rfl
  · rename_i e m e' r m'
    cases hk : (Nat.beq e e' && markEq m m')
    · rw [hk] at hd; cases hd
    · rw [hk] at hd; cases hd; rw [Bool.and_eq_true] at hk; rw [Nat.eq_of_beq_eq_true hk.1, markEq_eq hk.2]; rfl
  · rename_i e e'
    cases hk : Nat.beq e e'
    · rw [hk] at hd; cases hd
    · rw [hk] at hd; cases hd; rw [Nat.eq_of_beq_eq_true hk]; rfl
  · rename_i ks ks' cs
    cases hk : decide (ks = ks')
    · rw [hk] at hd; cases hd
    · rw [hk] at hd; cases hd; rw [of_decide_eq_true hk]; rfl
  · rename_i i o i' o'
    cases hk : (Nat.beq i i' && Nat.beq o o')
    · rw [hk] at hd; cases hd
    · rw [hk] at hd; cases hd; rw [Bool.and_eq_true] at hk; rw [Nat.eq_of_beq_eq_true hk.1, Nat.eq_of_beq_eq_true hk.2]; rfl
  · rename_i i i'
    cases hk : Nat.beq i i'
    · rw [hk] at hd; cases hd
    · rw [hk] at hd; cases hd; rw [Nat.eq_of_beq_eq_true hk]; rfl
  · rename_i g g'
    cases hk : Nat.beq g g'
    · rw [hk] at hd; cases hd
    · rw [hk] at hd; cases hd; rw [Nat.eq_of_beq_eq_true hk]; rfl
  all_goals first
    | (cases hd; rfl)
    | (cases hd)

def decCs : List CTm → List AV → Option (List Hole)
  | [], [] => some []
  | t :: ts, v :: vs => (decC t v).bind fun h => (decCs ts vs).map (h :: ·)
  | _, _ => none
def encCs (hs : List Hole) : List CTm → Nat → List AV
  | [], _ => []
  | t :: ts, j => encC t (lget hs j .no) :: encCs hs ts (j + 1)
theorem lget_mid (pre : List Hole) (h : Hole) (l : List Hole) : lget (pre ++ h :: l) pre.length .no = h := by
  rw [lget_eq]; simp
theorem decCs_enc : ∀ {ts : List CTm} {vs : List AV} {hs : List Hole}, decCs ts vs = some hs → hs.length = ts.length ∧ ∀ pre post, vs = encCs (pre ++ hs ++ post) ts pre.length
  | [], [], hs, h => by simp only [decCs, Option.some.injEq] at h; subst h; exact ⟨rfl, fun _ _ => rfl⟩
  | t :: ts, v :: vs, hs, h => by
    simp only [decCs, Option.bind_eq_some_iff, Option.map_eq_some_iff] at h
    obtain ⟨x, hx, l, hl, rfl⟩ := h
    obtain ⟨h1, h2⟩ := decCs_enc hl
    refine ⟨by simp [h1], fun pre post => ?_⟩
    simp only [encCs]
    have e := h2 (pre ++ [x]) post
    simp only [List.append_assoc, List.cons_append, List.nil_append, List.length_append, List.length_cons, List.length_nil, Nat.zero_add] at e ⊢
    rw [lget_mid, ← decC_enc hx, ← e]
  | [], _ :: _, hs, h => by simp [decCs] at h
  | _ :: _, [], hs, h => by simp [decCs] at h

def decT : Tm → AV → Option (List Hole)
  | .c t, v => (decC t v).map fun h => [h]
  | .agg l, .agg cs => decCs l cs
  | .fn g a c, .fn g' a' c' => cond (Nat.beq g g') ((decCs a a').bind fun h => (decCs c c').map (h ++ ·)) none
  | .ifc t x, .iface t' v => cond (Nat.beq t t') ((decC x v).map fun h => [h]) none
  | .ifa t l, .iface t' (.agg cs) => cond (Nat.beq t t') (decCs l cs) none
  | _, _ => none
def tmSize : Tm → Nat
  | .c _ => 1
  | .agg l => l.length
  | .fn _ a c => a.length + c.length
  | .ifc _ _ => 1
  | .ifa _ l => l.length
def encT (hs : List Hole) : Tm → Nat → AV
  | .c t, j => encC t (lget hs j .no)
  | .agg l, j => .agg (encCs hs l j)
  | .fn g a c, j => .fn g (encCs hs a j) (encCs hs c (j + a.length))
  | .ifc t x, j => .iface t (encC x (lget hs j .no))
  | .ifa t l, j => .iface t (.agg (encCs hs l j))
theorem decT_enc {t : Tm} {v : AV} {hs : List Hole} (hd : decT t v = some hs) : hs.length = tmSize t ∧ ∀ pre post, v = encT (pre ++ hs ++ post) t pre.length := by
  unfold decT at hd
  split at hd
  · simp only [Option.map_eq_some_iff] at hd
    obtain ⟨x, hx, rfl⟩ := hd
    refine ⟨rfl, fun pre post => ?_⟩
    simp only [encT, List.append_assoc, List.cons_append, List.nil_append]
    rw [lget_mid, ← decC_enc hx]
  · obtain ⟨h1, h2⟩ := decCs_enc hd
    exact ⟨h1, fun pre post => by simp only [encT]; rw [← h2 pre post]⟩
  · rename_i g a c g' a' c'
    cases hk : Nat.beq g g'
    · rw [hk] at hd; cases hd
    · rw [hk] at hd
      simp only [cond_true, Option.bind_eq_some_iff, Option.map_eq_some_iff] at hd
      obtain ⟨x, hx, y, hy, rfl⟩ := hd
      obtain ⟨h1, h2⟩ := decCs_enc hx
      obtain ⟨h3, h4⟩ := decCs_enc hy
      refine ⟨by simp [h1, h3, tmSize], fun pre post => ?_⟩
      rw [Nat.eq_of_beq_eq_true hk]
      simp only [encT]
      have e1 := h2 pre (y ++ post)
      have e2 := h4 (pre ++ x) post
      simp only [List.append_assoc, List.length_append, h1] at e1 e2 ⊢
      rw [← e1, ← e2]
  · rename_i t x t' v
    cases hk : Nat.beq t t'
    · rw [hk] at hd; cases hd
    · rw [hk] at hd
      simp only [cond_true, Option.map_eq_some_iff] at hd
      obtain ⟨x, hx, rfl⟩ := hd
      refine ⟨rfl, fun pre post => ?_⟩
      rw [Nat.eq_of_beq_eq_true hk]
      simp only [encT, List.append_assoc, List.cons_append, List.nil_append]
      rw [lget_mid, ← decC_enc hx]
  · rename_i t l t' cs
    cases hk : Nat.beq t t'
    · rw [hk] at hd; cases hd
    · rw [hk] at hd
      obtain ⟨h1, h2⟩ := decCs_enc hd
      exact ⟨h1, fun pre post => by rw [Nat.eq_of_beq_eq_true hk]; simp only [encT]; rw [← h2 pre post]⟩
  · cases hd

def decTs : List Tm → List AV → Option (List Hole)
  | [], [] => some []
  | t :: ts, v :: vs => (decT t v).bind fun h => (decTs ts vs).map (h ++ ·)
  | _, _ => none
def encTs (hs : List Hole) : List Tm → Nat → List AV
  | [], _ => []
  | t :: ts, j => encT hs t j :: encTs hs ts (j + tmSize t)
def tmsSize : List Tm → Nat
  | [] => 0
  | t :: ts => tmSize t + tmsSize ts
theorem decTs_enc : ∀ {ts : List Tm} {vs : List AV} {hs : List Hole}, decTs ts vs = some hs → hs.length = tmsSize ts ∧ ∀ pre post, vs = encTs (pre ++ hs ++ post) ts pre.length
  | [], [], hs, h => by simp only [decTs, Option.some.injEq] at h; subst h; exact ⟨rfl, fun _ _ => rfl⟩
  | t :: ts, v :: vs, hs, h => by
    simp only [decTs, Option.bind_eq_some_iff, Option.map_eq_some_iff] at h
    obtain ⟨x, hx, l, hl, rfl⟩ := h
    obtain ⟨h1, h2⟩ := decT_enc hx
    obtain ⟨h3, h4⟩ := decTs_enc hl
    refine ⟨by simp [h1, h3, tmsSize], fun pre post => ?_⟩
    simp only [encTs]
    have e1 := h2 pre (l ++ post)
    have e2 := h4 (pre ++ x) post
    simp only [List.append_assoc, List.length_append, h1] at e1 e2 ⊢
    rw [← e1, ← e2]
  | [], _ :: _, hs, h => by simp [decTs] at h
  | _ :: _, [], hs, h => by simp [decTs] at h

def decO : OTm → AObj → Option (List Hole)
  | .box l, .box cs => decTs l cs
  | .map kk et, .map kk' et' es => cond (decide (kk = kk') && Nat.beq et et') (some [.M es]) none
  | _, _ => none
def otSize : OTm → Nat
  | .box l => tmsSize l
  | .map _ _ => 1
def encO (hs : List Hole) : OTm → Nat → AObj
  | .box l, j => .box (encTs hs l j)
  | .map kk et, j => .map kk et (hM (lget hs j .no))
theorem decO_enc {t : OTm} {v : AObj} {hs : List Hole} (hd : decO t v = some hs) : hs.length = otSize t ∧ ∀ pre post, v = encO (pre ++ hs ++ post) t pre.length := by
  unfold decO at hd
  split at hd
  · obtain ⟨h1, h2⟩ := decTs_enc hd
    exact ⟨h1, fun pre post => by simp only [encO]; rw [← h2 pre post]⟩
  · rename_i kk et kk' et' es
    cases hk : (decide (kk = kk') && Nat.beq et et')
    · rw [hk] at hd; cases hd
    · rw [hk] at hd; cases hd
      rw [Bool.and_eq_true] at hk
      rw [of_decide_eq_true hk.1, Nat.eq_of_beq_eq_true hk.2]
      refine ⟨rfl, fun pre post => ?_⟩
      simp only [encO, List.append_assoc, List.cons_append, List.nil_append]
      rw [lget_mid]; rfl
  · cases hd
def decOs : List OTm → List AObj → Option (List Hole)
  | [], [] => some []
  | t :: ts, v :: vs => (decO t v).bind fun h => (decOs ts vs).map (h ++ ·)
  | _, _ => none
def encOs (hs : List Hole) : List OTm → Nat → List AObj
  | [], _ => []
  | t :: ts, j => encO hs t j :: encOs hs ts (j + otSize t)
theorem decOs_enc : ∀ {ts : List OTm} {vs : List AObj} {hs : List Hole}, decOs ts vs = some hs → ∀ pre post, vs = encOs (pre ++ hs ++ post) ts pre.length
  | [], [], hs, h, _, _ => rfl
  | t :: ts, v :: vs, hs, h, pre, post => by
    simp only [decOs, Option.bind_eq_some_iff, Option.map_eq_some_iff] at h
    obtain ⟨x, hx, l, hl, rfl⟩ := h
    obtain ⟨h1, h2⟩ := decO_enc hx
    have h3 := decOs_enc hl
    simp only [encOs]
    have e1 := h2 pre (l ++ post)
    have e2 := h3 (pre ++ x) post
    simp only [List.append_assoc, List.length_append, h1] at e1 e2 ⊢
    rw [← e1, ← e2]
  | [], _ :: _, hs, h, _, _ => by simp [decOs] at h
  | _ :: _, [], hs, h, _, _ => by simp [decOs] at h

/-! ### specs -/
/-- a spec: for arguments of its form, what is done with what comes back -/
abbrev Spec := List AV → List AObj → Option ((Res → Option Res) → Option Res)
def mkSpec (tA : List Tm) (tO : List OTm) (f : List Hole → List Hole → (Res → Option Res) → Option Res) : Spec := fun args os =>
  (decTs tA args).bind fun h => (decOs tO os).map fun h' K => f h h' K
/-- the first spec that fits -/
def rhoL : List (FuncId × Spec) → FuncId → Fn
  | [], _, _, _, _ => none
  | (g', s) :: l, g, args, os, K => cond (Nat.beq g g') (match s args os with
    | some F => F K
    | none => rhoL l g args os K) (rhoL l g args os K)

section
variable {P : Program} {glob : Nat → Option AV}
/-- a spec is so -/
def SpecOK (P : Program) (glob : Nat → Option AV) (s : Spec) (g : FuncId) : Prop :=
  (∀ args os F, s args os = some F → ∀ K R, F K = some R → ∃ res, K res = some R ∧ ∀ (E : Env) (S : Start) (w : World) (vs : List Value), S.w = w → S.H = E.H → GlobR P S glob →
    WR P E S (fun id => lnth os id) cur0 (fun k => k < os.length) w → All2 (ValR P E cur0) args vs → Callee P g vs.toArray w (Post P E S os.length res)) ∧
  ∀ args os F, s args os = some F → ∀ K φ : Res → Option Res, F (fun r => (K r).bind φ) = (F K).bind φ
theorem SpecOK.of {F : Fn} {s : Spec} {g : FuncId} (h : SoundN P glob F g) (hs : ∀ args os G, s args os = some G → ∀ K, G K = F args os K) : SpecOK P glob s g :=
  ⟨fun args os G hG K R hR => h.sound args os K R (by rw [← hs args os G hG K]; exact hR), fun args os G hG K φ => by
    rw [hs args os G hG, hs args os G hG]; exact h.nat args os K φ⟩
theorem rhoL_ok : ∀ {l : List (FuncId × Spec)}, (∀ x ∈ l, SpecOK P glob x.2 x.1) → ∀ g, SoundN P glob (rhoL l g) g
  | [], _, g => ⟨fun args os K R h => by simp [rhoL] at h, fun args os K φ => rfl⟩
  | (g', s) :: l, hl, g => by
    have ih := rhoL_ok (l := l) (fun x hx => hl x (List.mem_cons_of_mem _ hx)) g
    have hs := hl (g', s) (List.mem_cons_self ..)
    refine ⟨fun args os K R h => ?_, fun args os K φ => ?_⟩
    · simp only [rhoL] at h
      cases hb : Nat.beq g g'
      · rw [hb] at h; exact ih.sound args os K R h
      · rw [hb] at h
        simp only [cond_true] at h
        have := Nat.eq_of_beq_eq_true hb
        subst this
        split at h
        · rename_i F hF
          exact hs.1 args os F hF K R h
        · exact ih.sound args os K R h
    · simp only [rhoL]
      cases hb : Nat.beq g g'
      · exact ih.nat args os K φ
      · simp only [cond_true]
        split
        · rename_i F hF
          exact hs.2 args os F hF K φ
        · exact ih.nat args os K φ
theorem forall_cons {α : Type} {p : α → Prop} {a : α} {l : List α} (h : p a) (hl : ∀ x ∈ l, p x) : ∀ x ∈ a :: l, p x := fun x hx => by
  rcases List.mem_cons.1 hx with rfl | hx
  · exact h
  · exact hl x hx
theorem forall_nil {α : Type} {p : α → Prop} : ∀ x ∈ ([] : List α), p x := fun x hx => by cases hx

/-- a spec made of a function's run -/
theorem mk_ok {ρ : FuncId → Fn} (hρ : ∀ g, SoundN P glob (ρ g) g) (hm : P.follows .mixedOrders = true) {g : FuncId} {fn : Func} {c : Code} (hf : P.funcs[g]? = some fn) (hname : (fn.name == "runtime.NumGoroutine") = false) (hb : fn.body = some c) (hdr : drawsOk c = true) (fuel : Nat)
    {tA : List Tm} {tO : List OTm} {f : List Hole → List Hole → (Res → Option Res) → Option Res} (hrun : ∀ h h' K, runF P glob ρ (loopN fuel) jpId fn (encTs h tA 0) (encOs h' tO 0) K = f h h' K) : SpecOK P glob (mkSpec tA tO f) g :=
  SpecOK.of (sound_runF hρ hm hf hname hb hdr fuel) fun args os G hG K => by
    simp only [mkSpec, Option.bind_eq_some_iff, Option.map_eq_some_iff] at hG
    obtain ⟨h, h1, h', h2, rfl⟩ := hG
    have e1 := (decTs_enc h1).2 [] []
    have e2 := decOs_enc h2 [] []
    simp only [List.nil_append, List.append_nil, List.length_nil] at e1 e2
    rw [e1, e2]
    exact (hrun h h' K).symm
/-- the checks of a function's text -/
def drawsF (fn : Func) : Bool := match fn.body with
  | some c => drawsOk c && !(fn.name == "runtime.NumGoroutine")
  | none => false
theorem mk_ok' {ρ : FuncId → Fn} (hρ : ∀ g, SoundN P glob (ρ g) g) (hm : P.follows .mixedOrders = true) {g : FuncId} {fn : Func} (hf : P.funcs[g]? = some fn) (hd : drawsF fn = true) (fuel : Nat)
    {tA : List Tm} {tO : List OTm} {f : List Hole → List Hole → (Res → Option Res) → Option Res} (hrun : ∀ h h' K, runF P glob ρ (loopN fuel) jpId fn (encTs h tA 0) (encOs h' tO 0) K = f h h' K) : SpecOK P glob (mkSpec tA tO f) g := by
  unfold drawsF at hd
  split at hd
  · rename_i c hc
    rw [Bool.and_eq_true] at hd
    exact mk_ok hρ hm hf (by simpa using hd.2) hc hd.1 fuel hrun
  · cases hd
theorem SpecOK.nothing {s : Spec} {g : FuncId} (h : ∀ args os F, s args os = some F → ∀ K, F K = none) : SpecOK P glob s g :=
  ⟨fun args os F hF K R hR => (by rw [h args os F hF K] at hR; cases hR), fun args os F hF K φ => (by rw [h args os F hF, h args os F hF]; rfl)⟩
end
theorem atJoin_id {P : Program} {glob : Nat → Option AV} {ρ : FuncId → Fn} {lp : LP} {fn : Func} {n0 : Nat} {K : Res → Option Res} {p : List Nat} {os : Opens} {nx : Nat} {sl : List AV} {l : MemL} {ds : Defs} :
    atJoin P glob ρ lp jpId fn n0 K p os nx sl l ds = atRest P glob ρ lp jpId fn n0 K p os nx sl l ds := rfl
/-- no package-level variable is read -/
def G0 : Nat → Option AV := fun _ => none
end Go.AI

/-
  SPECS THAT ARE GIVEN BY A CONTRACT: data in, data out. Nothing here is about one program.
-/
set_option linter.unusedVariables false
set_option linter.unusedSimpArgs false
namespace Go.AI
open Go.RowKit

section
variable {P : Program} {glob : Nat → Option AV} {E : Env} {S : Start} {M : Mem} {cur : Cur} {U : Nat → Prop} {w w' : World}

theorem cell_of_heap {b o : Nat} (h : w'.heap[b]? = w.heap[b]?) : w'.cell? ⟨b, o, none⟩ = w.cell? ⟨b, o, none⟩ := by
  simp only [World.cell?, h]
theorem lt_of_cell {b o : Nat} {v : Value} (h : w.cell? ⟨b, o, none⟩ = some v) : b < w.heap.size := by
  rcases Nat.lt_or_ge b w.heap.size with h1 | h1
  · exact h1
  · simp [World.cell?, Array.getElem?_eq_none h1] at h

/-- nothing that was there has turned -/
theorem WR.below (hw : WR P E S M cur U w) (hb : Below w.heap.size w w') : WR P E S M cur U w' := by
  refine
    { hw with
      mem := fun id o ho => ?_, bnd := fun i b h => ⟨Nat.lt_of_lt_of_le (hw.bnd i b h).1 hb.size, (hw.bnd i b h).2⟩
      heap := fun b o v h => ?_, rights := fun k e u h1 h2 => ?_, os := hb.os.trans hw.os, tape := hb.tape.trans hw.tape, output := hb.output.trans hw.output
      size := Nat.le_trans hw.size hb.size, frame := fun b h1 h2 => (hb.block b (Nat.lt_of_lt_of_le h1 hw.size)).trans (hw.frame b h1 h2) }
  · obtain ⟨b, h1, h2⟩ := hw.mem id o ho
    have hlt := (hw.bnd id b h1).1
    refine ⟨b, h1, ?_⟩
    cases o with
    | box cs =>
      obtain ⟨vs, ty, q1, q2⟩ := h2
      exact ⟨vs, ty, by rw [hb.block b hlt]; exact q1, q2⟩
    | map kk et es =>
      obtain ⟨xs, clock, q1, q2⟩ := h2
      exact ⟨xs, clock, by rw [hb.block b hlt]; exact q1, q2⟩
  · have hc := hw.heap b o v h
    rw [cell_of_heap (hb.block b (lt_of_cell hc))]
    exact hc
  · obtain ⟨q1, q2⟩ := hw.rights k e u h1 h2
    refine ⟨?_, q2⟩
    rcases q1 with q1 | ⟨g, n, cap, blk, r0, r1, r2⟩
    · exact .inl q1
    · have hlt : g < w.heap.size := by
        rcases Nat.lt_or_ge g w.heap.size with h | h
        · exact h
        · rw [Array.getElem?_eq_none h] at r1; cases r1
      exact .inr ⟨g, n, cap, blk, r0, by rw [hb.block g hlt]; exact r1, r2⟩

/-- the package-level variables that are named, as they lie in the world -/
def GlobW (glob : Nat → Option AV) (w : World) : Prop := ∀ g ks cs, glob g = some (.rptr ks cs) → ∃ ty fr, w.heap[g]? = some (.cells (cs.map toVal).toArray ty fr)

/-- data that a function hands back -/
def isData : AV → Bool
  | .i _ _ => true
  | .b _ => true
  | .s _ => true
  | _ => false

theorem SpecOK.given {g : FuncId} {fn : Func} (hf : P.funcs[g]? = some fn) (hd : drawsF fn = true) {tA : List Tm} (c : List Hole → Bool) (v : List Hole → AV) (hv : ∀ h, isData (v h) = true)
    (hcall : ∀ h (E : Env) (vs : List Value) (w : World), c h = true → GlobW glob w → All2 (ValR P E cur0) (encTs h tA 0) vs → Calls P g vs.toArray w fun e w' => e = .returned (toVal (v h)) ∧ Below w.heap.size w w') :
    SpecOK P glob (mkSpec tA [] fun h _ K => cond (c h) (K (.ok (v h) [])) none) g := by
  have dec : ∀ {args os F}, mkSpec tA [] (fun h _ K => cond (c h) (K (.ok (v h) [])) none) args os = some F → ∃ h, args = encTs h tA 0 ∧ os = [] ∧ F = fun K => cond (c h) (K (.ok (v h) [])) none := by
    intro args os F hF
    simp only [mkSpec, Option.bind_eq_some_iff, Option.map_eq_some_iff] at hF
    obtain ⟨h, h1, h', h2, rfl⟩ := hF
    have e1 := (decTs_enc h1).2 [] []
    simp only [List.nil_append, List.append_nil, List.length_nil] at e1
    refine ⟨h, e1, ?_, rfl⟩
    cases os with
    | nil => rfl
    | cons _ _ => simp [decOs] at h2
  refine ⟨fun args os F hF K R hR => ?_, fun args os F hF K φ => ?_⟩
  · obtain ⟨h, rfl, rfl, rfl⟩ := dec hF
    cases hc : c h
    · simp [hc] at hR
    · simp only [hc, cond_true] at hR
      refine ⟨_, hR, fun E S w vs hSw hSH hg hw hargs => ?_⟩
      have hG : GlobW glob w := fun g ks cs hgl => by
        obtain ⟨ks', cs', e, _, ⟨ty, fr, hb⟩, _⟩ := hg g _ hgl
        cases e
        exact ⟨ty, fr, by rw [← hSw]; exact hb⟩
      unfold Callee
      have henter : (callFunc g vs.toArray).run P w = .ok (.enter g vs.toArray) w := by
        unfold drawsF at hd
        split at hd
        · rename_i b hb
          rw [Bool.and_eq_true] at hd
          have h1 : fn.name ≠ "runtime.NumGoroutine" := by simpa using hd.2
          simp [callFunc, hf, h1, hb]
        · cases hd
      rw [henter]
      refine (hcall h E vs w hc hG hargs).mono fun e w' he => ?_
      obtain ⟨rfl, hb⟩ := he
      have hvd := hv h
      refine ⟨rfl, fun j cs off e r k ver hj => by cases j <;> simp [lnth] at hj, E, _, fun j hj => by simp at hj, hw.below hb, ?_, ?_⟩
      · generalize v h = x at hvd
        cases x <;> simp [isData] at hvd
        · exact CR.int _ _
        · exact CR.bool _
        · exact CR.str _
      · generalize v h = x at hvd
        cases x <;> simp [isData] at hvd <;> rfl
  · obtain ⟨h, rfl, rfl, rfl⟩ := dec hF
    rw [cond_bind]; rfl
end
end Go.AI

/-
  A LAW's FUNCTION: from its spec to its call. Nothing here is about one program.
-/
set_option linter.unusedVariables false
set_option linter.unusedSimpArgs false
namespace Go.AI
open Go.RowKit

section
variable {P : Program} {glob : Nat → Option AV}

/-- where a call begins: all that lies in the world is fixed, nothing may be written -/
def startOf (w : World) : Start := { H := fun b o => w.cell? ⟨b, o, none⟩, w, acc := fun _ => False }
def envOf (w : World) : Env := { H := fun b o => w.cell? ⟨b, o, none⟩, β := fun _ => none, own := fun _ => none, rt := fun _ => false, loc := fun _ => none }
theorem WR.start (w : World) : WR P (envOf w) (startOf w) (fun id => lnth [] id) cur0 (fun k => k < 0) w where
  mem := fun id o h => by cases id <;> simp [lnth] at h
  inj := fun i j b h => by cases h
  bnd := fun i b h => by cases h
  freshβ := fun _ _ => rfl
  freshR := fun _ _ => rfl
  freshC := fun _ _ _ _ => rfl
  heap := fun b o v h => h
  ext := fun b o v h => h
  acc := fun b o v h => .inl h
  rights := fun k e u h => by cases h
  dist := fun k k' e e' u u' g h => by cases h
  os := rfl
  tape := rfl
  output := rfl
  size := Nat.le_refl _
  frame := fun _ _ _ => rfl

/-- the variables that are named, as a world holds them -/
theorem globR_start {w : World} (h : ∀ g v, glob g = some v → ∃ ks cs, v = .rptr ks cs ∧ okCells ks cs = true ∧ (∀ k, k < cs.length → isData (lget cs k .unk) = true) ∧ ∃ ty fr, w.heap[g]? = some (.cells (cs.map toVal).toArray ty fr)) : GlobR P (startOf w) glob := fun g v hg => by
  obtain ⟨ks, cs, e, h1, h2, ty, fr, h3⟩ := h g v hg
  refine ⟨ks, cs, e, ?_, ⟨ty, fr, h3⟩, fun h => h⟩
  refine CR.rptr ks cs g 0 (fun k => toVal (lget cs k .unk)) h1 (fun k hk => ?_) fun k hk => ?_
  · show w.cell? ⟨g, 0 + k, none⟩ = _
    simp only [World.cell?, h3, Nat.zero_add]
    rw [lget_eq]
    simp [hk]
  · have := h2 k hk
    generalize lget cs k .unk = x at this
    cases x <;> simp [isData] at this
    · exact CR.int _ _
    · exact CR.bool _
    · exact CR.str _

/-- a law that answers true, called -/
theorem law_calls {s : Spec} {g : FuncId} (hs : SpecOK P glob s g) {args : List AV} {F : (Res → Option Res) → Option Res} (hF : s args [] = some F) (ht : F some = some (.ok (.b true) []))
    {fn : Func} (hf : P.funcs[g]? = some fn) (hd : drawsF fn = true) {w : World} (hg : GlobR P (startOf w) glob) {vs : List Value} (hv : All2 (ValR P (envOf w) cur0) args vs) :
    Calls P g vs.toArray w fun e w' => e = .returned (.bool true) ∧ Below w.heap.size w w' := by
  obtain ⟨res, hres, hcal⟩ := hs.1 args [] F hF some _ ht
  cases hres
  have h := hcal (envOf w) (startOf w) w vs rfl rfl hg (WR.start w) hv
  unfold Callee at h
  have henter : (callFunc g vs.toArray).run P w = .ok (.enter g vs.toArray) w := by
    unfold drawsF at hd
    split at hd
    · rename_i b hb
      rw [Bool.and_eq_true] at hd
      have h1 : fn.name ≠ "runtime.NumGoroutine" := by simpa using hd.2
      simp [callFunc, hf, h1, hb]
    · cases hd
  rw [henter] at h
  refine h.mono fun e w' he => ?_
  cases e with
  | returned v =>
    obtain ⟨_, _, E', U', _, hw, hv, _⟩ := he
    have : v = .bool true := inv_b hv
    subst this
    exact ⟨rfl, hw.os, hw.tape, hw.output, hw.size, fun b hb => hw.frame b hb fun h => h⟩
  | _ => exact he.elim
end
end Go.AI

/-
  SPECS THAT ARE GIVEN BY A CONTRACT, two results. Nothing here is about one program.
-/
set_option linter.unusedVariables false
set_option linter.unusedSimpArgs false
namespace Go.AI
open Go.RowKit

section
variable {P : Program} {glob : Nat → Option AV}

theorem valR_data {E : Env} {cur : Cur} {x : AV} (h : isData x = true) : ValR P E cur x (toVal x) := by
  cases x <;> simp [isData] at h
  · exact CR.int _ _
  · exact CR.bool _
  · exact CR.str _

theorem SpecOK.given2 {g : FuncId} {fn : Func} (hf : P.funcs[g]? = some fn) (hd : drawsF fn = true) {tA : List Tm} (c : List Hole → Bool) (v u : List Hole → AV) (hv : ∀ h, isData (v h) = true) (hu : ∀ h, isData (u h) = true)
    (hcall : ∀ h (E : Env) (vs : List Value) (w : World), c h = true → GlobW glob w → All2 (ValR P E cur0) (encTs h tA 0) vs → Calls P g vs.toArray w fun e w' => e = .returned (.tuple #[toVal (v h), toVal (u h)]) ∧ Below w.heap.size w w') :
    SpecOK P glob (mkSpec tA [] fun h _ K => cond (c h) (K (.ok (.tup [v h, u h]) [])) none) g := by
  have dec : ∀ {args os F}, mkSpec tA [] (fun h _ K => cond (c h) (K (.ok (.tup [v h, u h]) [])) none) args os = some F → ∃ h, args = encTs h tA 0 ∧ os = [] ∧ F = fun K => cond (c h) (K (.ok (.tup [v h, u h]) [])) none := by
    intro args os F hF
    simp only [mkSpec, Option.bind_eq_some_iff, Option.map_eq_some_iff] at hF
    obtain ⟨h, h1, h', h2, rfl⟩ := hF
    have e1 := (decTs_enc h1).2 [] []
    simp only [List.nil_append, List.append_nil, List.length_nil] at e1
    refine ⟨h, e1, ?_, rfl⟩
    cases os with
    | nil => rfl
    | cons _ _ => simp [decOs] at h2
  refine ⟨fun args os F hF K R hR => ?_, fun args os F hF K φ => ?_⟩
  · obtain ⟨h, rfl, rfl, rfl⟩ := dec hF
    cases hc : c h
    · simp [hc] at hR
    · simp only [hc, cond_true] at hR
      refine ⟨_, hR, fun E S w vs hSw hSH hg hw hargs => ?_⟩
      have hG : GlobW glob w := fun g ks cs hgl => by
        obtain ⟨ks', cs', e, _, ⟨ty, fr, hb⟩, _⟩ := hg g _ hgl
        cases e
        exact ⟨ty, fr, by rw [← hSw]; exact hb⟩
      unfold Callee
      have henter : (callFunc g vs.toArray).run P w = .ok (.enter g vs.toArray) w := by
        unfold drawsF at hd
        split at hd
        · rename_i b hb
          rw [Bool.and_eq_true] at hd
          have h1 : fn.name ≠ "runtime.NumGoroutine" := by simpa using hd.2
          simp [callFunc, hf, h1, hb]
        · cases hd
      rw [henter]
      refine (hcall h E vs w hc hG hargs).mono fun e w' he => ?_
      obtain ⟨rfl, hb⟩ := he
      have hvd := hv h
      have hud := hu h
      refine ⟨rfl, fun j cs off e r k ver hj => by cases j <;> simp [lnth] at hj, E, _, fun j hj => by simp at hj, hw.below hb, ⟨[toVal (v h), toVal (u h)], rfl, valR_data hvd, valR_data hud, trivial⟩, ?_⟩
      generalize v h = x at hvd
      generalize u h = y at hud
      cases x <;> simp [isData] at hvd <;> cases y <;> simp [isData] at hud <;> rfl
  · obtain ⟨h, rfl, rfl, rfl⟩ := dec hF
    rw [cond_bind]; rfl
end
end Go.AI

/-
  DERIVED: THE SHELF's CONTRACTS AT THIS DUMP, IN PLAIN WORDS (tools/lay-plain.mjs out of 'TryzShelf.lean', which tools/lay-shelf.mjs wrote): THE SAME DECLARATIONS UNDER THE SAME NAMES: 'import', 'namespace', 'open', 'def', 'theorem' AND NOTHING ELSE: no command of the shelf's: FOR A HAND-IN. Each laying: the table of numbers ('.._ren') and one theorem, a field a fact of the dump's own or the kernel's comparison; each contract: ONE APPLICATION.
-/
namespace Go.Proofs
open Go.Shelf
def Tryz.lays160_ren : Go.Shelf.Ren := ⟨fun | 160 => 56 | 232 => 100 | 231 => 99 | 227 => 101 | 234 => 103 | 233 => 102 | 236 => 105 | 235 => 104 | 228 => 145 | 271 => 148 | 151 => 147 | 197 => 146 | 120 => 161 | 152 => 160 | 260 => 159 | 137 => 170 | 119 => 171 | 224 => 172 | 225 => 173 | 217 => 178 | 266 => 184 | n => n, fun | 9 => 9 | 4 => 4 | 3 => 3 | 5 => 5 | 117 => 141 | 116 => 140 | 0 => 0 | 124 => 144 | 21 => 21 | 105 => 174 | 46 => 64 | 119 => 193 | 139 => 196 | 138 => 195 | n => n, fun | 3 => 0 | 4 => 1 | n => n⟩
theorem Tryz.lays160 : Go.Proofs.Lays.n160 Tryz.prog Tryz.lays160_ren := {
  mixed := by kernel_rfl
  f119 := Tryz.func171.trans (congrArg some (by kernel_rfl))
  f120 := Tryz.func161.trans (congrArg some (by kernel_rfl))
  f137 := Tryz.func170.trans (congrArg some (by kernel_rfl))
  f151 := Tryz.func147.trans (congrArg some (by kernel_rfl))
  f152 := Tryz.func160.trans (congrArg some (by kernel_rfl))
  f160 := Tryz.func56.trans (congrArg some (by kernel_rfl))
  f197 := Tryz.func146.trans (congrArg some (by kernel_rfl))
  f217 := Tryz.func178.trans (congrArg some (by kernel_rfl))
  f224 := Tryz.func172.trans (congrArg some (by kernel_rfl))
  f225 := Tryz.func173.trans (congrArg some (by kernel_rfl))
  f227 := Tryz.func101.trans (congrArg some (by kernel_rfl))
  f228 := Tryz.func145.trans (congrArg some (by kernel_rfl))
  f231 := Tryz.func99.trans (congrArg some (by kernel_rfl))
  f232 := Tryz.func100.trans (congrArg some (by kernel_rfl))
  f233 := Tryz.func102.trans (congrArg some (by kernel_rfl))
  f234 := Tryz.func103.trans (congrArg some (by kernel_rfl))
  f235 := Tryz.func104.trans (congrArg some (by kernel_rfl))
  f236 := Tryz.func105.trans (congrArg some (by kernel_rfl))
  f260 := Tryz.func159.trans (congrArg some (by kernel_rfl))
  f266 := Tryz.func184.trans (congrArg some (by kernel_rfl))
  f271 := Tryz.func148.trans (congrArg some (by kernel_rfl))
  t0 := Tryz.underlying0
  a0 := Tryz.isAgg0
  z0 := Tryz.sizeOf0
  v0 := Tryz.zeroValue0
  t3 := Tryz.underlying3
  a3 := Tryz.isAgg3
  z3 := Tryz.sizeOf3
  v3 := Tryz.zeroValue3
  t4 := Tryz.underlying4
  a4 := Tryz.isAgg4
  z4 := Tryz.sizeOf4
  v4 := Tryz.zeroValue4
  t5 := Tryz.underlying5
  a5 := Tryz.isAgg5
  z5 := Tryz.sizeOf5
  v5 := Tryz.zeroValue5
  t9 := Tryz.underlying9
  a9 := Tryz.isAgg9
  z9 := Tryz.sizeOf9
  v9 := Tryz.zeroValue9
  t21 := Tryz.underlying21
  a21 := Tryz.isAgg21
  z21 := Tryz.sizeOf21
  v21 := Tryz.zeroValue21
  t46 := Tryz.underlying64
  a46 := Tryz.isAgg64
  z46 := Tryz.sizeOf64
  v46 := Tryz.zeroValue64
  t105 := Tryz.underlying174
  a105 := Tryz.isAgg174
  z105 := Tryz.sizeOf174
  v105 := Tryz.zeroValue174
  t116 := Tryz.underlying140
  a116 := Tryz.isAgg140
  z116 := Tryz.sizeOf140
  t117 := Tryz.underlying141
  a117 := Tryz.isAgg141
  z117 := Tryz.sizeOf141
  v117 := Tryz.zeroValue141
  t119 := Tryz.underlying193
  a119 := Tryz.isAgg193
  z119 := Tryz.sizeOf193
  t124 := Tryz.underlying144
  a124 := Tryz.isAgg144
  z124 := Tryz.sizeOf144
  v124 := Tryz.zeroValue144
  t138 := Tryz.underlying195
  a138 := Tryz.isAgg195
  z138 := Tryz.sizeOf195
  v138 := Tryz.zeroValue195
  t139 := Tryz.underlying196
  a139 := Tryz.isAgg196
  z139 := Tryz.sizeOf196
  v139 := Tryz.zeroValue196
  g3 := by kernel_rfl
  g4 := by kernel_rfl }
def Tryz.lays214_ren : Go.Shelf.Ren := ⟨fun | 214 => 151 | n => n, fun | 4 => 4 | 9 => 9 | n => n, fun | n => n⟩
def Tryz.lays121_ren : Go.Shelf.Ren := ⟨fun | 121 => 109 | 214 => 151 | n => n, fun | 4 => 4 | 9 => 9 | n => n, fun | n => n⟩
theorem Tryz.lays121 : Go.Proofs.Lays.n121 Tryz.prog Tryz.lays121_ren := {
  mixed := by kernel_rfl
  f121 := Tryz.func109.trans (congrArg some (by kernel_rfl))
  f214 := Tryz.func151.trans (congrArg some (by kernel_rfl))
  t4 := Tryz.underlying4
  a4 := Tryz.isAgg4
  z4 := Tryz.sizeOf4
  v4 := Tryz.zeroValue4
  t9 := Tryz.underlying9
  a9 := Tryz.isAgg9
  z9 := Tryz.sizeOf9
  v9 := Tryz.zeroValue9 }
open Go.RowKit in
/-- strconv.FormatBool: "FormatBool returns "true" or "false" according to the value of b.": IT RETURNS 'Lib.formatBool b'; the world is as it was. (LAID: no walk: one application.) -/
theorem Tryz.strconv_FormatBool (b : Bool) (w : World) :
    Calls Tryz.prog 109 #[.bool b] w fun e w' => e = .returned (.string ⟨(Lib.formatBool b).toArray⟩) ∧ w' = w := Any.strconv_FormatBool Tryz.lays121 b w
def Tryz.laysM246_ren : Go.Shelf.Ren := ⟨fun | 246 => 162 | 283 => 174 | 284 => 175 | 285 => 176 | 286 => 177 | 129 => 180 | 317 => 179 | 318 => 181 | 319 => 182 | 320 => 183 | 337 => 185 | 338 => 186 | n => n, fun | 2 => 2 | 3 => 3 | 9 => 9 | 4 => 4 | 171 => 201 | 0 => 0 | 53 => 98 | 37 => 99 | 5 => 5 | 173 => 204 | 212 => 207 | 51 => 208 | 20 => 20 | 213 => 209 | 46 => 64 | 232 => 212 | 233 => 213 | n => n, fun | 17 => 3 | 18 => 4 | 19 => 5 | n => n⟩
def Tryz.laysM243_ren : Go.Shelf.Ren := ⟨fun | 243 => 152 | 246 => 162 | 283 => 174 | 284 => 175 | 285 => 176 | 286 => 177 | 129 => 180 | 317 => 179 | 318 => 181 | 319 => 182 | 320 => 183 | 337 => 185 | 338 => 186 | n => n, fun | 3 => 3 | 9 => 9 | 2 => 2 | 4 => 4 | 171 => 201 | 0 => 0 | 53 => 98 | 37 => 99 | 5 => 5 | 173 => 204 | 212 => 207 | 51 => 208 | 20 => 20 | 213 => 209 | 46 => 64 | 232 => 212 | 233 => 213 | n => n, fun | 17 => 3 | 18 => 4 | 19 => 5 | n => n⟩
def Tryz.laysM171_ren : Go.Shelf.Ren := ⟨fun | 171 => 110 | 243 => 152 | 246 => 162 | 283 => 174 | 284 => 175 | 285 => 176 | 286 => 177 | 129 => 180 | 317 => 179 | 318 => 181 | 319 => 182 | 320 => 183 | 337 => 185 | 338 => 186 | n => n, fun | 3 => 3 | 9 => 9 | 2 => 2 | 4 => 4 | 171 => 201 | 0 => 0 | 53 => 98 | 37 => 99 | 5 => 5 | 173 => 204 | 212 => 207 | 51 => 208 | 20 => 20 | 213 => 209 | 46 => 64 | 232 => 212 | 233 => 213 | n => n, fun | 17 => 3 | 18 => 4 | 19 => 5 | n => n⟩
theorem Tryz.laysM171 : Go.Proofs.LaysM.n171 Tryz.prog Tryz.laysM171_ren := {
  mixed := by kernel_rfl
  f129 := Tryz.func180.trans (congrArg some (by kernel_rfl))
  f171 := Tryz.func110.trans (congrArg some (by kernel_rfl))
  f243 := Tryz.func152.trans (congrArg some (by kernel_rfl))
  f246 := Tryz.func162.trans (congrArg some (by kernel_rfl))
  f283 := Tryz.func174.trans (congrArg some (by kernel_rfl))
  f284 := Tryz.func175.trans (congrArg some (by kernel_rfl))
  f285 := Tryz.func176.trans (congrArg some (by kernel_rfl))
  f286 := Tryz.func177.trans (congrArg some (by kernel_rfl))
  f317 := Tryz.func179.trans (congrArg some (by kernel_rfl))
  f318 := Tryz.func181.trans (congrArg some (by kernel_rfl))
  f319 := Tryz.func182.trans (congrArg some (by kernel_rfl))
  f320 := Tryz.func183.trans (congrArg some (by kernel_rfl))
  f337 := Tryz.func185.trans (congrArg some (by kernel_rfl))
  f338 := Tryz.func186.trans (congrArg some (by kernel_rfl))
  t0 := Tryz.underlying0
  a0 := Tryz.isAgg0
  z0 := Tryz.sizeOf0
  v0 := Tryz.zeroValue0
  t2 := Tryz.underlying2
  a2 := Tryz.isAgg2
  z2 := Tryz.sizeOf2
  v2 := Tryz.zeroValue2
  t3 := Tryz.underlying3
  a3 := Tryz.isAgg3
  z3 := Tryz.sizeOf3
  v3 := Tryz.zeroValue3
  t4 := Tryz.underlying4
  a4 := Tryz.isAgg4
  z4 := Tryz.sizeOf4
  v4 := Tryz.zeroValue4
  t5 := Tryz.underlying5
  a5 := Tryz.isAgg5
  z5 := Tryz.sizeOf5
  v5 := Tryz.zeroValue5
  t9 := Tryz.underlying9
  a9 := Tryz.isAgg9
  z9 := Tryz.sizeOf9
  v9 := Tryz.zeroValue9
  t20 := Tryz.underlying20
  a20 := Tryz.isAgg20
  z20 := Tryz.sizeOf20
  v20 := Tryz.zeroValue20
  t37 := Tryz.underlying99
  a37 := Tryz.isAgg99
  z37 := Tryz.sizeOf99
  v37 := Tryz.zeroValue99
  t46 := Tryz.underlying64
  a46 := Tryz.isAgg64
  z46 := Tryz.sizeOf64
  v46 := Tryz.zeroValue64
  t51 := Tryz.underlying208
  a51 := Tryz.isAgg208
  z51 := Tryz.sizeOf208
  v51 := Tryz.zeroValue208
  t53 := Tryz.underlying98
  a53 := Tryz.isAgg98
  z53 := Tryz.sizeOf98
  v53 := Tryz.zeroValue98
  t171 := Tryz.underlying201
  a171 := Tryz.isAgg201
  z171 := Tryz.sizeOf201
  v171 := Tryz.zeroValue201
  t173 := Tryz.underlying204
  a173 := Tryz.isAgg204
  z173 := Tryz.sizeOf204
  v173 := Tryz.zeroValue204
  t212 := Tryz.underlying207
  a212 := Tryz.isAgg207
  z212 := Tryz.sizeOf207
  v212 := Tryz.zeroValue207
  t213 := Tryz.underlying209
  a213 := Tryz.isAgg209
  z213 := Tryz.sizeOf209
  t232 := Tryz.underlying212
  a232 := Tryz.isAgg212
  z232 := Tryz.sizeOf212
  v232 := Tryz.zeroValue212
  t233 := Tryz.underlying213
  a233 := Tryz.isAgg213
  z233 := Tryz.sizeOf213
  v233 := Tryz.zeroValue213
  g17 := by kernel_rfl
  g18 := by kernel_rfl
  g19 := by kernel_rfl
  i0 := by kernel_rfl
  i2 := by kernel_rfl
  i3 := by kernel_rfl
  i4 := by kernel_rfl
  i5 := by kernel_rfl
  i9 := by kernel_rfl
  i20 := by kernel_rfl
  i37 := by kernel_rfl
  i46 := by kernel_rfl
  i51 := by kernel_rfl
  i53 := by kernel_rfl
  i171 := by kernel_rfl
  i173 := by kernel_rfl
  i212 := by kernel_rfl
  i232 := by kernel_rfl
  i233 := by kernel_rfl
  m17 := by kernel_rfl
  m18 := by kernel_rfl
  m19 := by kernel_rfl }
open Go.RowKit Go.Sort Go.Lib in
/-- strconv.Itoa: "Itoa is equivalent to FormatInt(int64(i), 10).": i's DECIMAL NUMERAL ('Lib.itoa': a '-' where i is negative, then the digits), FOR EVERY int. The world behind the call: the world before it, new blocks behind the heap (the library's 'var a [24]byte'), draws. (LAID: no walk: one application.) -/
theorem Tryz.strconv_Itoa (n : Int) (h0 : -9223372036854775808 ≤ n) (h1 : n ≤ 9223372036854775807) (w : World) (htab : Lib.TabIs Tryz.prog w "internal/strconv.uint64pow10" .u64 Lib.pow10Tab) :
    Calls Tryz.prog 110 #[.int .i64 n] w fun e w' => e = .returned (.string ⟨(Lib.itoa n).toArray⟩) ∧ ∃ k os, w' = grow (w.drewN k) os := Any.strconv_Itoa Tryz.laysM171 n h0 h1 w htab
end Go.Proofs

/-
  THE LIBRARY's CONTRACTS AS SPECS, over one seat's program.
-/
set_option linter.unusedVariables false
set_option maxRecDepth 100000
namespace Go.AI
open Go.Proofs Go.RowKit

/-- the table that the library reads -/
def Gl : Nat → Option AV := fun g => cond (Nat.beq g 3) (some (.rptr (List.replicate 20 (.int .u64)) (Lib.pow10Tab.map (AV.i .u64)))) none
theorem Tryz_mixed : Tryz.prog.follows .mixedOrders = true := by kernel_rfl

def trimOK (s cs : List UInt8) : Bool := cs.all (fun c => decide (c.toNat < 128)) && (Nat.ble (cs.length + 1) 4294967281 && Nat.ble s.length 9223372036854775807)
def f56a {α : Type} (k : Nat) (x0 x1 : List UInt8) (K : List UInt8 → Option α) : Option α := cond (trimOK x0 x1) (K (Lib.trimS x0 x1)) none
def W56a (F : List UInt8 → List UInt8 → (List UInt8 → Option Res) → Option Res) : Spec := mkSpec [(.c .s), (.c .s)] [] fun h h' K => F (hS (lget h 0 .no)) (hS (lget h 1 .no)) (fun y0 => K (.ok (AV.s y0) []))
def f109a {α : Type} (k : Nat) (x0 : Bool) (K : List UInt8 → Option α) : Option α := K (Lib.formatBool x0)
def W109a (F : Bool → (List UInt8 → Option Res) → Option Res) : Spec := mkSpec [(.c .b)] [] fun h h' K => F (hB (lget h 0 .no)) (fun y0 => K (.ok (AV.s y0) []))
def intOK (n : Int) : Bool := decide (-9223372036854775808 ≤ n) && decide (n ≤ 9223372036854775807)
def f110a {α : Type} (k : Nat) (x0 : Int) (K : List UInt8 → Option α) : Option α := cond (intOK x0) (K (Lib.itoa x0)) none
def W110a (F : Int → (List UInt8 → Option Res) → Option Res) : Spec := mkSpec [(.c (.i IntKind.i64))] [] fun h h' K => F (hI (lget h 0 .no)) (fun y0 => K (.ok (AV.s y0) []))

theorem ok56a (k : Nat) : SpecOK Tryz.prog Gl (W56a (f56a k)) 56 :=
  SpecOK.given (fn := Tryz.f56) (by kernel_rfl) (by kernel_rfl) (tA := [(.c .s), (.c .s)]) (fun h => trimOK (hS (lget h 0 .no)) (hS (lget h 1 .no))) (fun h => .s (Lib.trimS (hS (lget h 0 .no)) (hS (lget h 1 .no)))) (fun _ => rfl)
    fun h E vs w hc _ hv => by
      obtain ⟨u, us, rfl, h1, hv⟩ := hv.cons_left
      obtain ⟨u2, us, rfl, h2, hv⟩ := hv.cons_left
      cases hv.nil_left
      have e1 : u = .string ⟨(hS (lget h 0 .no)).toArray⟩ := inv_s (tupR_of_val h1)
      have e2 : u2 = .string ⟨(hS (lget h 1 .no)).toArray⟩ := inv_s (tupR_of_val h2)
      subst e1; subst e2
      simp only [trimOK, Bool.and_eq_true, List.all_eq_true, decide_eq_true_eq] at hc
      obtain ⟨c1, c2, c3⟩ := hc
      refine (Any.strings_Trim_laid Tryz.lays160 (by kernel_rfl) ⟨(hS (lget h 0 .no)).toArray⟩ ⟨(hS (lget h 1 .no)).toArray⟩ w (by simpa [ByteArray.size] using Nat.le_of_ble_eq_true c3) (by have := Nat.le_of_ble_eq_true c2; simp [ByteArray.size]; omega) fun j b hb => ?_).mono fun e w' he => he
      exact c1 b (List.mem_of_getElem? (by simpa using hb))
theorem ok109a (k : Nat) : SpecOK Tryz.prog Gl (W109a (f109a k)) 109 :=
  SpecOK.given (fn := Tryz.f109) (by kernel_rfl) (by kernel_rfl) (tA := [(.c .b)]) (fun h => true) (fun h => .s (Lib.formatBool (hB (lget h 0 .no)))) (fun _ => rfl)
    fun h E vs w hc _ hv => by
      obtain ⟨u, us, rfl, h1, hv⟩ := hv.cons_left
      cases hv.nil_left
      have e1 : u = .bool (hB (lget h 0 .no)) := inv_b (tupR_of_val h1)
      subst e1
      exact (Tryz.strconv_FormatBool _ w).mono fun e w' ⟨h1, h2⟩ => ⟨h1, h2 ▸ Below.refl _ _⟩
theorem gPow : Tryz.prog.globalNamed "internal/strconv.uint64pow10" = some 3 := by kernel_rfl
theorem ok110a (k : Nat) : SpecOK Tryz.prog Gl (W110a (f110a k)) 110 :=
  SpecOK.given (fn := Tryz.f110) (by kernel_rfl) (by kernel_rfl) (tA := [(.c (.i IntKind.i64))]) (fun h => intOK (hI (lget h 0 .no))) (fun h => .s (Lib.itoa (hI (lget h 0 .no)))) (fun _ => rfl)
    fun h E vs w hc hG hv => by
      obtain ⟨u, us, rfl, h1, hv⟩ := hv.cons_left
      cases hv.nil_left
      have e1 : u = .int .i64 (hI (lget h 0 .no)) := inv_i (tupR_of_val h1)
      subst e1
      simp only [intOK, Bool.and_eq_true, decide_eq_true_eq] at hc
      have htab : Lib.TabIs Tryz.prog w "internal/strconv.uint64pow10" .u64 Lib.pow10Tab := by
        obtain ⟨ty, fr, hb⟩ := hG 3 _ _ (show Gl 3 = some (.rptr (List.replicate 20 (.int .u64)) (Lib.pow10Tab.map (AV.i .u64))) from rfl)
        unfold Lib.TabIs World.var?
        rw [gPow]
        simp only [Option.bind_some, hb]
        rw [List.map_map]; rfl
      exact (Tryz.strconv_Itoa _ hc.1 hc.2 w htab).mono fun e w' ⟨h1, q, os, h2⟩ => ⟨h1, by subst h2; exact ⟨rfl, rfl, rfl, by simp [Sort.grow], fun b hb => by show (w.heap ++ os)[b]? = w.heap[b]?; rw [Array.getElem?_append_left hb]⟩⟩
end Go.AI

set_option maxRecDepth 100000
namespace Go.AI
open Go.Proofs Go.RowKit
def mayB (r : Int) : Bool := decide (0 ≤ r) && (decide (r ≤ 1114111) && (decide (r < 55296) || decide (57343 < r)))
theorem may_yes (r : Int) (h : mayB r = true) (w : World) :
    Calls Tryz.prog 166 #[.int .i64 r] w fun e w' => e = .returned (.bool true) ∧ w' = w := by
  simp only [mayB, Bool.and_eq_true, Bool.or_eq_true, decide_eq_true_eq] at h
  obtain ⟨h0, h1, h2⟩ := h
  rcases h2 with h2 | h2
  · go_enter Tryz.func166, Tryz.ntmps166
    go_wp2
    go_ret
    exact ⟨rfl, rfl⟩
  · go_enter Tryz.func166, Tryz.ntmps166
    go_wp2
    go_ret
    exact ⟨rfl, rfl⟩
theorem may_no (r : Int) (h : mayB r = false) (h0 : -9223372036854775808 ≤ r) (h1 : r ≤ 9223372036854775807) (w : World) :
    Calls Tryz.prog 166 #[.int .i64 r] w fun e w' => e = .returned (.bool false) ∧ w' = w := by
  have h3 : r < 0 ∨ 1114111 < r ∨ (55296 ≤ r ∧ r ≤ 57343) := by
    simp only [mayB, Bool.and_eq_false_iff, Bool.or_eq_false_iff, decide_eq_false_iff_not] at h
    omega
  clear h
  rcases h3 with h3 | h3 | ⟨h3, h4⟩
  · go_enter Tryz.func166, Tryz.ntmps166
    go_wp2
    go_ret
    exact ⟨rfl, rfl⟩
  · go_enter Tryz.func166, Tryz.ntmps166
    go_wp2
    go_ret
    exact ⟨rfl, rfl⟩
  · go_enter Tryz.func166, Tryz.ntmps166
    go_wp2
    go_ret
    have e1 : decide (r < 55296) = false := decide_eq_false (by omega)
    have e2 : decide (57343 < r) = false := decide_eq_false (by omega)
    refine ⟨?_, rfl⟩
    show Ending.returned (Value.bool (decide (r < 55296) || decide (57343 < r))) = _
    rw [e1, e2]; rfl
theorem forms_any (w : World) :
    Calls Tryz.prog 165 #[] w fun e w' => e = .returned (.agg #[.int .i64 0, .int .i64 0, .int .i64 0, .int .i64 128, .int .i64 0, .int .i64 0, .int .i64 224, .int .i64 192, .int .i64 128, .int .i64 240, .int .i64 224, .int .i64 2048, .int .i64 248, .int .i64 240, .int .i64 65536]) ∧ Below w.heap.size w w' := by
  go_enter Tryz.func165, Tryz.ntmps165
  go_wp2
  exact bodyPost_ret (v := .agg #[.int .i64 0, .int .i64 0, .int .i64 0, .int .i64 128, .int .i64 0, .int .i64 0, .int .i64 224, .int .i64 192, .int .i64 128, .int .i64 240, .int .i64 224, .int .i64 2048, .int .i64 248, .int .i64 240, .int .i64 65536]) (by simp [results, Tryz.results165, go_sem]) rfl ⟨rfl, by
    repeat' first | exact Below.refl _ _ | (refine Below.setCell ?_ (by simp) _) | (refine Below.alloc ?_ (Nat.le_refl _) _) ⟩
theorem put_no (r : Int) (h : mayB r = false) (h0 : -9223372036854775808 ≤ r) (h1 : r ≤ 9223372036854775807) (w : World) :
    Calls Tryz.prog 164 #[.int .i64 r] w fun e w' => e = .returned (.tuple #[.string ⟨#[]⟩, .int .i64 200]) ∧ w' = w := by
  have H := Lib.hid h; clear h
  go_enter Tryz.func164, Tryz.ntmps164
  go_wp2_with (go_at_call 166; refine (may_no _ H.out h0 h1 _).mono ?_; rintro e w' ⟨rfl, rfl⟩)
  go_ret2
  exact ⟨rfl, rfl⟩
theorem mk1 (w : World) : (Instr.makeSlice 99 (.int .i64 1) (.int .i64 1)).run Tryz.prog w = .ok (.slice (some ⟨w.heap.size, 0, none⟩) 1 1) (w.alloc (.cells #[.int .u8 0] 5)) := by kernel_rfl
theorem mk2 (w : World) : (Instr.makeSlice 99 (.int .i64 2) (.int .i64 2)).run Tryz.prog w = .ok (.slice (some ⟨w.heap.size, 0, none⟩) 2 2) (w.alloc (.cells #[.int .u8 0, .int .u8 0] 5)) := by kernel_rfl
theorem mk3 (w : World) : (Instr.makeSlice 99 (.int .i64 3) (.int .i64 3)).run Tryz.prog w = .ok (.slice (some ⟨w.heap.size, 0, none⟩) 3 3) (w.alloc (.cells #[.int .u8 0, .int .u8 0, .int .u8 0] 5)) := by kernel_rfl
theorem mk4 (w : World) : (Instr.makeSlice 99 (.int .i64 4) (.int .i64 4)).run Tryz.prog w = .ok (.slice (some ⟨w.heap.size, 0, none⟩) 4 4) (w.alloc (.cells #[.int .u8 0, .int .u8 0, .int .u8 0, .int .u8 0] 5)) := by kernel_rfl
theorem conv (W : World) (B n : Nat) (l : List UInt8) (hn : l.length = n) (hc : ∀ j (hj : j < l.length), W.cell? ⟨B, j, none⟩ = some (.int .u8 (l[j].toNat : Int))) :
    (convert 99 9 (.slice (some ⟨B, 0, none⟩) n n)).run Tryz.prog W = .ok (.string ⟨l.toArray⟩) W := by
  subst hn
  refine run_convert_bytes_back W 99 9 5 ⟨B, 0, none⟩ l.length l Tryz.underlying99 Tryz.underlying5 Tryz.underlying9 fun j hj => ?_
  have := hc j hj
  have e : Addr.add ⟨B, 0, none⟩ j = ⟨B, j, none⟩ := by unfold Addr.add; split <;> simp_all
  rw [e]; exact this
theorem conv2 (W0 : World) (B n : Nat) (cs : Array Value) (l : List UInt8) (hn : l.length = n) (hB : B = W0.heap.size) (hcs : cs = (l.map fun c => Value.int .u8 (c.toNat : Int)).toArray) :
    (convert 99 9 (.slice (some ⟨B, 0, none⟩) n n)).run Tryz.prog (W0.alloc (.cells cs 5)) = .ok (.string ⟨l.toArray⟩) (W0.alloc (.cells cs 5)) := by
  subst hB hcs
  refine conv _ _ n l hn fun j hj => ?_
  rw [World.cell?_alloc_new]
  simp only [List.getElem?_toArray, List.getElem?_map, List.getElem?_eq_getElem hj, Option.map_some]
def u8 (a : Int) : UInt8 := UInt8.ofNat a.toNat
theorem u8_toNat (a : Int) : ((u8 (a % 256)).toNat : Int) = a % 256 := by
  simp only [u8, UInt8.toNat_ofNat']
  omega
def putL (r : Int) : List UInt8 :=
  if r < 128 then [u8 (bits BinOp.or .i64 0 r % 256)]
  else if r < 2048 then [u8 (bits BinOp.or .i64 192 (r / 64) % 256), u8 (bits BinOp.or .i64 128 (bits BinOp.and .i64 r 63) % 256)]
  else if r < 65536 then [u8 (bits BinOp.or .i64 224 (r / 64 / 64) % 256), u8 (bits BinOp.or .i64 128 (bits BinOp.and .i64 (r / 64) 63) % 256), u8 (bits BinOp.or .i64 128 (bits BinOp.and .i64 r 63) % 256)]
  else [u8 (bits BinOp.or .i64 240 (r / 64 / 64 / 64) % 256), u8 (bits BinOp.or .i64 128 (bits BinOp.and .i64 (r / 64 / 64) 63) % 256), u8 (bits BinOp.or .i64 128 (bits BinOp.and .i64 (r / 64) 63) % 256), u8 (bits BinOp.or .i64 128 (bits BinOp.and .i64 r 63) % 256)]
theorem put_1 (r : Int) (h0 : 0 ≤ r) (h1 : r < 128) (hm : mayB r = true) (w : World) :
    Calls Tryz.prog 164 #[.int .i64 r] w fun e w' => e = .returned (.tuple #[.string ⟨(putL r).toArray⟩, .int .i64 0]) ∧ Below w.heap.size w w' := by
  have hl : putL r = [u8 (bits BinOp.or .i64 0 r % 256)] := by unfold putL; rw [if_pos h1]
  rw [hl]; clear hl
  have H := Lib.hid hm; clear hm
  have hmk := mk1
  go_enter Tryz.func164, Tryz.ntmps164
  go_wp2_with (first | (go_at_call 166; refine (may_yes _ H.out _).mono ?_; rintro e w' ⟨rfl, rfl⟩) | (go_at_call 165; refine (forms_any _).mono ?_; rintro e w1 ⟨rfl, hb1⟩))
  refine wp_loop_rounds 4 ?_
  rw [rounds_succ]; go_wp2
  rw [rounds_succ]; go_wp2
  rw [rounds_succ]; go_wp2
  rw [rounds_succ]; go_wp2
  refine wp_loop_rounds 4 ?_
  rw [rounds_succ]; go_wp2
  rw [conv2 _ _ 1 _ [u8 (bits BinOp.or .i64 0 r % 256)] rfl (by simp) (by simp only [List.map_cons, List.map_nil, u8_toNat])]
  go_wp2
  go_ret2
  refine ⟨rfl, ?_⟩
  exact (hb1.alloc hb1.size _).alloc (by have := hb1.size; simp; omega) _
theorem put_2 (r : Int) (h0 : 128 ≤ r) (h1 : r < 2048) (hm : mayB r = true) (w : World) :
    Calls Tryz.prog 164 #[.int .i64 r] w fun e w' => e = .returned (.tuple #[.string ⟨(putL r).toArray⟩, .int .i64 0]) ∧ Below w.heap.size w w' := by
  have hl : putL r = [u8 (bits BinOp.or .i64 192 (r / 64) % 256), u8 (bits BinOp.or .i64 128 (bits BinOp.and .i64 r 63) % 256)] := by unfold putL; rw [if_neg (by omega), if_pos h1]
  rw [hl]; clear hl
  have H := Lib.hid hm; clear hm
  have hmk := mk2
  go_enter Tryz.func164, Tryz.ntmps164
  go_wp2_with (first | (go_at_call 166; refine (may_yes _ H.out _).mono ?_; rintro e w' ⟨rfl, rfl⟩) | (go_at_call 165; refine (forms_any _).mono ?_; rintro e w1 ⟨rfl, hb1⟩))
  refine wp_loop_rounds 4 ?_
  rw [rounds_succ]; go_wp2
  rw [rounds_succ]; go_wp2
  rw [rounds_succ]; go_wp2
  refine wp_loop_rounds 4 ?_
  rw [rounds_succ]; go_wp2
  rw [rounds_succ]; go_wp2
  rw [conv2 _ _ 2 _ [u8 (bits BinOp.or .i64 192 (r / 64) % 256), u8 (bits BinOp.or .i64 128 (bits BinOp.and .i64 r 63) % 256)] rfl (by simp) (by simp only [List.map_cons, List.map_nil, u8_toNat])]
  go_wp2
  go_ret2
  refine ⟨rfl, ?_⟩
  exact (hb1.alloc hb1.size _).alloc (by have := hb1.size; simp; omega) _
theorem put_3 (r : Int) (h0 : 2048 ≤ r) (h1 : r < 65536) (hm : mayB r = true) (w : World) :
    Calls Tryz.prog 164 #[.int .i64 r] w fun e w' => e = .returned (.tuple #[.string ⟨(putL r).toArray⟩, .int .i64 0]) ∧ Below w.heap.size w w' := by
  have hl : putL r = [u8 (bits BinOp.or .i64 224 (r / 64 / 64) % 256), u8 (bits BinOp.or .i64 128 (bits BinOp.and .i64 (r / 64) 63) % 256), u8 (bits BinOp.or .i64 128 (bits BinOp.and .i64 r 63) % 256)] := by unfold putL; rw [if_neg (by omega), if_neg (by omega), if_pos h1]
  rw [hl]; clear hl
  have H := Lib.hid hm; clear hm
  have hmk := mk3
  go_enter Tryz.func164, Tryz.ntmps164
  go_wp2_with (first | (go_at_call 166; refine (may_yes _ H.out _).mono ?_; rintro e w' ⟨rfl, rfl⟩) | (go_at_call 165; refine (forms_any _).mono ?_; rintro e w1 ⟨rfl, hb1⟩))
  refine wp_loop_rounds 4 ?_
  rw [rounds_succ]; go_wp2
  rw [rounds_succ]; go_wp2
  refine wp_loop_rounds 4 ?_
  rw [rounds_succ]; go_wp2
  rw [rounds_succ]; go_wp2
  rw [rounds_succ]; go_wp2
  rw [conv2 _ _ 3 _ [u8 (bits BinOp.or .i64 224 (r / 64 / 64) % 256), u8 (bits BinOp.or .i64 128 (bits BinOp.and .i64 (r / 64) 63) % 256), u8 (bits BinOp.or .i64 128 (bits BinOp.and .i64 r 63) % 256)] rfl (by simp) (by simp only [List.map_cons, List.map_nil, u8_toNat])]
  go_wp2
  go_ret2
  refine ⟨rfl, ?_⟩
  exact (hb1.alloc hb1.size _).alloc (by have := hb1.size; simp; omega) _
theorem put_4 (r : Int) (h0 : 65536 ≤ r) (h1 : r < 1114112) (hm : mayB r = true) (w : World) :
    Calls Tryz.prog 164 #[.int .i64 r] w fun e w' => e = .returned (.tuple #[.string ⟨(putL r).toArray⟩, .int .i64 0]) ∧ Below w.heap.size w w' := by
  have hl : putL r = [u8 (bits BinOp.or .i64 240 (r / 64 / 64 / 64) % 256), u8 (bits BinOp.or .i64 128 (bits BinOp.and .i64 (r / 64 / 64) 63) % 256), u8 (bits BinOp.or .i64 128 (bits BinOp.and .i64 (r / 64) 63) % 256), u8 (bits BinOp.or .i64 128 (bits BinOp.and .i64 r 63) % 256)] := by unfold putL; rw [if_neg (by omega), if_neg (by omega), if_neg (by omega)]
  rw [hl]; clear hl
  have H := Lib.hid hm; clear hm
  have hmk := mk4
  go_enter Tryz.func164, Tryz.ntmps164
  go_wp2_with (first | (go_at_call 166; refine (may_yes _ H.out _).mono ?_; rintro e w' ⟨rfl, rfl⟩) | (go_at_call 165; refine (forms_any _).mono ?_; rintro e w1 ⟨rfl, hb1⟩))
  refine wp_loop_rounds 4 ?_
  rw [rounds_succ]; go_wp2
  refine wp_loop_rounds 4 ?_
  rw [rounds_succ]; go_wp2
  rw [rounds_succ]; go_wp2
  rw [rounds_succ]; go_wp2
  rw [rounds_succ]; go_wp2
  rw [conv2 _ _ 4 _ [u8 (bits BinOp.or .i64 240 (r / 64 / 64 / 64) % 256), u8 (bits BinOp.or .i64 128 (bits BinOp.and .i64 (r / 64 / 64) 63) % 256), u8 (bits BinOp.or .i64 128 (bits BinOp.and .i64 (r / 64) 63) % 256), u8 (bits BinOp.or .i64 128 (bits BinOp.and .i64 r 63) % 256)] rfl (by simp) (by simp only [List.map_cons, List.map_nil, u8_toNat])]
  go_wp2
  go_ret2
  refine ⟨rfl, ?_⟩
  exact (hb1.alloc hb1.size _).alloc (by have := hb1.size; simp; omega) _
end Go.AI

/-
  utf.Put AS A SPEC.
-/
set_option linter.unusedVariables false
set_option maxRecDepth 100000
namespace Go.AI
open Go.Proofs Go.RowKit
def putS (r : Int) : List UInt8 := cond (mayB r) (putL r) []
def putE (r : Int) : Int := cond (mayB r) 0 200
theorem put_any (r : Int) (h0 : -9223372036854775808 ≤ r) (h1 : r ≤ 9223372036854775807) (w : World) :
    Calls Tryz.prog 164 #[.int .i64 r] w fun e w' => e = .returned (.tuple #[.string ⟨(putS r).toArray⟩, .int .i64 (putE r)]) ∧ Below w.heap.size w w' := by
  unfold putS putE
  cases h : mayB r
  · exact (put_no r h h0 h1 w).mono fun e w' ⟨a, b⟩ => ⟨a, b ▸ Below.refl _ _⟩
  · simp only [cond_true]
    have hb : 0 ≤ r ∧ r ≤ 1114111 := by
      have h' := h
      simp only [mayB, Bool.and_eq_true, decide_eq_true_eq] at h'
      exact ⟨h'.1, h'.2.1⟩
    rcases Int.lt_or_le r 128 with c1 | c1
    · exact put_1 r hb.1 c1 h w
    · rcases Int.lt_or_le r 2048 with c2 | c2
      · exact put_2 r c1 c2 h w
      · rcases Int.lt_or_le r 65536 with c3 | c3
        · exact put_3 r c2 c3 h w
        · exact put_4 r c3 (by omega) h w
def f164a {α : Type} (k : Nat) (x0 : Int) (K : List UInt8 → Int → Option α) : Option α := cond (intOK x0) (K (putS x0) (putE x0)) none
def W164a (F : Int → (List UInt8 → Int → Option Res) → Option Res) : Spec := mkSpec [(.c (.i IntKind.i64))] [] fun h h' K => F (hI (lget h 0 .no)) (fun y0 y1 => K (.ok (AV.tup [AV.s y0, AV.i IntKind.i64 y1]) []))
theorem ok164a (k : Nat) : SpecOK Tryz.prog Gl (W164a (f164a k)) 164 :=
  SpecOK.given2 (fn := Tryz.f164) (by kernel_rfl) (by kernel_rfl) (tA := [(.c (.i IntKind.i64))]) (fun h => intOK (hI (lget h 0 .no))) (fun h => .s (putS (hI (lget h 0 .no)))) (fun h => .i .i64 (putE (hI (lget h 0 .no)))) (fun _ => rfl) (fun _ => rfl)
    fun h E vs w hc _ hv => by
      obtain ⟨u, us, rfl, h1, hv⟩ := hv.cons_left
      cases hv.nil_left
      have e1 : u = .int .i64 (hI (lget h 0 .no)) := inv_i (tupR_of_val h1)
      subst e1
      simp only [intOK, Bool.and_eq_true, decide_eq_true_eq] at hc
      exact put_any _ hc.1 hc.2 w
end Go.AI

/-
  ARGUMENTS OPENED: what reads as data is an abstract value. Nothing here is about one program.
-/
set_option linter.unusedVariables false
set_option linter.unusedSimpArgs false
namespace Go.AI
open Go.RowKit Go.Deep

def leafW : AV → Prop
  | .i _ n => intOK n = true
  | _ => True
def cellW : AV → Prop
  | .lst _ rows _ => ∀ r ∈ rows, ∀ c ∈ r, leafW c
  | .i _ n => intOK n = true
  | _ => True
theorem leafW_of {c : AV} (h : cellW c) : leafW c := by
  cases c with
  | i k n => exact h
  | _ => exact trivial
theorem toI_leaf {c : AV} (h : leafW c) : intOK (toI c) = true := by
  cases c with
  | i k n => exact h
  | _ => rfl
theorem toR_cell {c : AV} (h : cellW c) : ∀ r ∈ toR c, ∀ x ∈ r, leafW x := by
  cases c with
  | lst e rows m => exact h
  | _ => intro r hr; simp [toR] at hr
theorem lget_leaf : ∀ {v : List AV} (i : Nat), (∀ c ∈ v, leafW c) → leafW (lget v i .unk)
  | [], _, _ => trivial
  | c :: v, 0, h => h c (by simp)
  | c :: v, i + 1, h => lget_leaf (v := v) i fun x hx => h x (by simp [hx])
theorem lget_cell : ∀ {v : List AV} (i : Nat), (∀ c ∈ v, cellW c) → cellW (lget v i .unk)
  | [], _, _ => trivial
  | c :: v, 0, h => h c (by simp)
  | c :: v, i + 1, h => lget_cell (v := v) i fun x hx => h x (by simp [hx])
section
variable (P : Program)
def contigB : List Field → Nat → Nat → Bool
  | [], off, total => Nat.beq off total
  | f :: fs, off, total => Nat.beq f.offset off && contigB fs (off + P.cellsOf f.type) total
def plainT (inner : TypeId → Bool) : Nat → TypeId → Bool
  | 0, _ => false
  | n + 1, t => match P.underlying t with
    | some .bool => true
    | some (.int k) => decide (k = .i64)
    | some .string => true
    | some (.slice e) => inner e
    | some (.struct fs) => contigB P fs.toList 0 (P.cellsOf t) && fs.toList.all fun f => plainT inner n f.type
    | _ => false
def rowT (inner : TypeId → Bool) (e : TypeId) : Bool := plainT P inner 8 e && (Nat.blt 0 (szOf P e) && Nat.beq (kindsOf P e).length (szOf P e))
end
section
variable {P : Program} {w : World} {H : Type} {enc : TypeId × Value → H} {spare : Nat → Bool} {held : Bool} {inner : TypeId → Bool}
abbrev Hw (w : World) : Nat → Nat → Option Value := fun b o => w.cell? ⟨b, o, none⟩

theorem okCells_app : ∀ {k1 k2 : List CT} {a1 a2 : List AV}, okCells k1 a1 = true → okCells k2 a2 = true → okCells (k1 ++ k2) (a1 ++ a2) = true
  | [], _, [], _, _, h => h
  | [], _, _ :: _, _, h, _ => by cases h
  | _ :: _, _, [], _, h, _ => by cases h
  | k :: ks, k2, c :: cs, a2, h, h2 => by
    simp only [okCells, List.cons_append] at h ⊢
    cases hc : okCell k c
    · rw [hc] at h; cases h
    · rw [hc] at h
      exact okCells_app h h2
theorem okRows_of {ks : List CT} : ∀ {rows : List (List AV)}, (∀ i, i < rows.length → okCells ks (lget rows i []) = true) → okRows ks rows = true
  | [], _ => rfl
  | r :: rows, h => by
    have h0 : okCells ks r = true := h 0 (by simp)
    unfold okRows
    rw [h0]
    exact okRows_of fun i hi => h (i + 1) (by simpa using hi)
theorem lget_mem {α : Type} {d : α} : ∀ {l : List α} {x : α}, x ∈ l → ∃ i, i < l.length ∧ lget l i d = x
  | [], _, h => by simp at h
  | a :: l, x, h => by
    rcases List.mem_cons.1 h with rfl | h
    · exact ⟨0, by simp, rfl⟩
    · obtain ⟨i, hi, e⟩ := lget_mem (d := d) h
      exact ⟨i + 1, by simpa using hi, e⟩
theorem lget_some {α : Type} (d : α) : ∀ (l : List α) (j : Nat), j < l.length → l[j]? = some (lget l j d)
  | [], j, h => by simp at h
  | a :: l, 0, _ => rfl
  | a :: l, j + 1, h => by simpa [lget] using lget_some d l j (by simpa using h)
theorem rows_build {Q : Nat → List AV → Prop} : ∀ (n : Nat) (Q : Nat → List AV → Prop), (∀ i, i < n → ∃ r, Q i r) → ∃ rows : List (List AV), rows.length = n ∧ ∀ i, i < n → Q i (lget rows i [])
  | 0, Q, _ => ⟨[], rfl, fun i hi => by omega⟩
  | n + 1, Q, h => by
    obtain ⟨r, hr⟩ := h 0 (by omega)
    obtain ⟨rows, hl, hq⟩ := rows_build (Q := fun i r => Q (i + 1) r) n (fun i r => Q (i + 1) r) (fun i hi => h (i + 1) (by omega))
    refine ⟨r :: rows, by simp [hl], fun i hi => ?_⟩
    cases i with
    | zero => exact hr
    | succ i => exact hq i (by omega)

def OpensAt (inner : TypeId → Bool) (enc : TypeId × Value → H) (spare : Nat → Bool) (held : Bool) (P : Program) (w : World) : Prop :=
  ∀ e, inner e = true → ∀ (t : TypeId) (fuel : Nat) (cs : List Value) (x : DataW H × List MemPlace), P.underlying t = some (.slice e) → DataW.trod enc P w 0 spare held fuel t cs = some x →
    ∃ rows v, cs = [v] ∧ CR P (Hw w) (.lst e rows .view) v ∧ (∀ r ∈ rows, ∀ c ∈ r, leafW c)
theorem fields_open {n : Nat} (ih : ∀ t, plainT P inner n t = true → ∀ fuel cs x, DataW.trod enc P w 0 spare held fuel t cs = some x → ∃ avs ks, kinds P n t = some ks ∧ All2 (CR P (Hw w)) avs cs ∧ okCells ks avs = true ∧ ∀ c ∈ avs, cellW c) :
    ∀ (fs : List Field) (off total : Nat) (cs : List Value), contigB P fs off total = true → cs.length = total → (∀ f ∈ fs, plainT P inner n f.type = true) →
      (∀ f ∈ fs, ∃ m x, DataW.trod enc P w 0 spare held m f.type ((cs.drop f.offset).take (P.cellsOf f.type)) = some x) →
      ∃ avs ks, fs.foldr (fun f acc => (kinds P n f.type).bind fun a => acc.map (a ++ ·)) (some []) = some ks ∧ All2 (CR P (Hw w)) avs (cs.drop off) ∧ okCells ks avs = true ∧ ∀ c ∈ avs, cellW c
  | [], off, total, cs, hc, hl, hp, ht => by
    have : off = total := Nat.eq_of_beq_eq_true hc
    refine ⟨[], [], rfl, ?_, rfl, fun c hc => by simp at hc⟩
    rw [List.drop_of_length_le (by omega)]
    exact trivial
  | f :: fs, off, total, cs, hc, hl, hp, ht => by
    unfold contigB at hc
    rw [Bool.and_eq_true] at hc
    have ho : f.offset = off := Nat.eq_of_beq_eq_true hc.1
    obtain ⟨m, x, hx⟩ := ht f (by simp)
    obtain ⟨a1, k1, e1, r1, o1, w1⟩ := ih f.type (hp f (by simp)) m _ x hx
    obtain ⟨a2, k2, e2, r2, o2, w2⟩ := fields_open ih fs (off + P.cellsOf f.type) total cs hc.2 hl (fun g hg => hp g (by simp [hg])) (fun g hg => ht g (by simp [hg]))
    refine ⟨a1 ++ a2, k1 ++ k2, ?_, ?_, okCells_app o1 o2, fun c hc => ?_⟩
    · rw [List.foldr_cons, e2, e1]; rfl
    · rw [ho] at r1
      have := r1.append r2
      rw [← List.drop_drop, List.take_append_drop] at this
      exact this
    · rcases List.mem_append.1 hc with hc | hc
      · exact w1 c hc
      · exact w2 c hc
theorem cells_open (hin : OpensAt inner enc spare held P w) : ∀ (n : Nat) (t : TypeId), plainT P inner n t = true → ∀ (fuel : Nat) (cs : List Value) (x : DataW H × List MemPlace), DataW.trod enc P w 0 spare held fuel t cs = some x →
    ∃ avs ks, kinds P n t = some ks ∧ All2 (CR P (Hw w)) avs cs ∧ okCells ks avs = true ∧ ∀ c ∈ avs, cellW c
  | 0, t, h, _, _, _, _ => by cases h
  | n + 1, t, h, fuel, cs, x, hx => by
    unfold plainT at h
    unfold kinds
    split at h
    · rename_i hu
      obtain ⟨b, rfl, _⟩ := DataW.trod_bool hu hx
      rw [hu]
      exact ⟨[.b b], [.bool], rfl, ⟨CR.bool b, trivial⟩, rfl, fun c hc => by simp at hc; subst hc; exact trivial⟩
    · rename_i k hu
      obtain ⟨m, rfl, _, hw⟩ := DataW.trod_int hu hx
      rw [hu]
      refine ⟨[.i k m], [.int k], rfl, ⟨CR.int k m, trivial⟩, by simp [okCells, okCell], fun c hc => ?_⟩
      simp at hc; subst hc
      have hk : k = .i64 := of_decide_eq_true h
      subst hk
      exact hw
    · rename_i hu
      obtain ⟨s, rfl, _, _⟩ := DataW.trod_string hu hx
      rw [hu]
      refine ⟨[.s s.data.toList], [.str], rfl, ⟨?_, trivial⟩, rfl, fun c hc => by simp at hc; subst hc; exact trivial⟩
      have := CR.str (P := P) (H := Hw w) s.data.toList
      simpa using this
    · rename_i e hu
      obtain ⟨rows, v, rfl, hr, hw⟩ := hin e h t fuel cs x hu hx
      rw [hu]
      exact ⟨[.lst e rows .view], [.sl e], rfl, ⟨hr, trivial⟩, by simp [okCells, okCell], fun c hc => by simp at hc; subst hc; exact hw⟩
    · rename_i fs hu
      rw [Bool.and_eq_true, List.all_eq_true] at h
      obtain ⟨xs, m, _, _, hl, hxl, hf⟩ := DataW.trod_struct hu hx
      rw [hu]
      have := fields_open (cells_open hin n) fs.toList 0 (P.cellsOf t) cs h.1 hl (fun f hf => h.2 f hf) (fun f hm => by
        obtain ⟨i, hi, e⟩ := List.getElem_of_mem hm
        have hi' : i < fs.size := by simpa using hi
        have hfi := hf i f (by rw [Array.getElem?_eq_getElem hi']; simpa using e)
        rw [List.getElem?_eq_getElem (by omega)] at hfi
        exact ⟨m, _, hfi⟩)
      simpa using this
    · cases h
theorem szOf_cells (t : TypeId) : szOf P t = P.cellsOf t := by
  unfold szOf Program.cellsOf
  cases P.info? t <;> rfl
/-- a slice of plain rows -/
theorem slice_open (hin : OpensAt inner enc spare held P w) {e : TypeId} (he : rowT P inner e = true) (t : TypeId) (fuel : Nat) (cs : List Value) (x : DataW H × List MemPlace) (ht : P.underlying t = some (.slice e)) (hx : DataW.trod enc P w 0 spare held fuel t cs = some x) :
    ∃ rows v, cs = [v] ∧ CR P (Hw w) (.lst e rows .view) v ∧ (∀ r ∈ rows, ∀ c ∈ r, cellW c) ∧ (∀ r ∈ rows, okCells (kindsOf P e) r = true) ∧ ((rows = [] ∧ x.1 = .nil) ∨ ∃ elems sp, x.1 = .slice elems sp ∧ elems.length = rows.length) := by
  unfold rowT at he
  rw [Bool.and_eq_true, Bool.and_eq_true] at he
  obtain ⟨hp, hz, hk⟩ := he
  have hz' : 0 < szOf P e := Nat.le_of_ble_eq_true hz
  have hk' : (kindsOf P e).length = szOf P e := Nat.eq_of_beq_eq_true hk
  rcases open_slice ht hx with ⟨rfl, rfl⟩ | ⟨a, len, cap, m, nn, D, Pl, rfl, _, hlc, _, hm, rfl, hel⟩
  · exact ⟨[], _, rfl, CR.lnil e none 0 (fun _ => rfl), fun r hr => by simp at hr, fun r hr => by simp at hr, .inl ⟨rfl, rfl⟩⟩
  · have hlm : len ≤ m := by rw [hm]; split <;> omega
    have hstep : ∀ i, i < len → ∃ r : List AV, ∃ cs', w.cells? 0 (a.add (i * P.cellsOf e)) (P.cellsOf e) = some cs' ∧ All2 (CR P (Hw w)) r cs' ∧ okCells (kindsOf P e) r = true ∧ ∀ c ∈ r, cellW c := fun i hi => by
      obtain ⟨cs', h1, h2⟩ := hel i (by omega)
      obtain ⟨avs, ks, e1, r1, o1, w1⟩ := cells_open hin 8 e hp nn cs' _ h2
      refine ⟨avs, cs', h1, r1, ?_, w1⟩
      unfold kindsOf
      rw [e1]; exact o1
    obtain ⟨rows, hl, hq⟩ := rows_build (Q := fun _ _ => True) len _ hstep
    have hwr : ∀ r ∈ rows, (∀ c ∈ r, cellW c) ∧ okCells (kindsOf P e) r = true := fun r hr => by
      obtain ⟨i, hi, rfl⟩ := lget_mem (d := []) hr
      obtain ⟨cs', _, _, o, hw⟩ := hq i (by omega)
      exact ⟨hw, o⟩
    refine ⟨rows, _, rfl, ?_, fun r hr => (hwr r hr).1, fun r hr => (hwr r hr).2, .inr ⟨_, _, rfl, by simp [hl]⟩⟩
    by_cases h0 : len = 0
    · subst h0
      obtain rfl : rows = [] := List.eq_nil_of_length_eq_zero hl
      exact CR.lnil e (some a) cap (fun h => by cases h)
    · have hc0 : 0 < P.cellsOf e := by rw [← szOf_cells]; exact hz'
      obtain ⟨b, off, sp⟩ := a
      have hsp : sp = none := by
        obtain ⟨cs', h1, _⟩ := hq 0 (by omega)
        obtain ⟨_, hln, hcell⟩ := World.cells?_some h1
        have := hcell 0 hc0
        rw [lget_some undef cs' 0 (by omega)] at this
        cases sp with
        | none => rfl
        | some q =>
          simp only [Nat.zero_mul, Addr.add, if_true] at this
          unfold World.cell? at this
          split at this
          · simp at this
          · cases this
      subst hsp
      have key : ∀ i j, i < len → j < szOf P e → ∃ cs', w.cell? ⟨b, off + (i * szOf P e + j), none⟩ = some (lget cs' j undef) ∧ All2 (CR P (Hw w)) (lget rows i []) cs' ∧ j < cs'.length := fun i j hi hj => by
        obtain ⟨cs', h1, h2, _⟩ := hq i (by omega)
        obtain ⟨_, hln, hcell⟩ := World.cells?_some h1
        rw [szOf_cells] at hj ⊢
        have := hcell j hj
        rw [Addr.add_lit, Addr.add_lit, lget_some undef cs' j (by omega)] at this
        exact ⟨cs', by rw [← Nat.add_assoc]; exact this, h2, by omega⟩
      have hsz : rows.length = len := hl
      rw [← hsz]
      refine CR.lst e rows b off cap (fun k => (w.cell? ⟨b, off + k, none⟩).getD undef) (by omega) (okRows_of fun i hi => ?_) hk' hz' (fun k hk => ?_) (fun i j hi hj => ?_)
      · obtain ⟨_, _, _, o, _⟩ := hq i (by omega)
        exact o
      · have hi : k / szOf P e < len := by rw [← hsz]; exact Nat.div_lt_of_lt_mul (by rw [Nat.mul_comm]; exact hk)
        obtain ⟨cs', h1, _⟩ := key (k / szOf P e) (k % szOf P e) hi (Nat.mod_lt _ hz')
        rw [show k / szOf P e * szOf P e + k % szOf P e = k by rw [Nat.mul_comm]; exact Nat.div_add_mod k _] at h1
        show w.cell? _ = _
        rw [h1]; rfl
      · obtain ⟨cs', h1, h2, h3⟩ := key i j (by omega) hj
        show CR P (Hw w) _ ((w.cell? ⟨b, off + (i * szOf P e + j), none⟩).getD undef)
        rw [h1]
        exact h2.get j .unk undef (by rw [h2.length]; exact h3)
theorem opens_none : OpensAt (fun _ => false) enc spare held P w := fun e he => by cases he
theorem opens_rows {inner' : TypeId → Bool} (hin : OpensAt inner' enc spare held P w) : OpensAt (fun e => rowT P inner' e && plainT P (fun _ => false) 8 e) enc spare held P w := fun e he t fuel cs x ht hx => by
  rw [Bool.and_eq_true] at he
  obtain ⟨rows, v, h1, h2, h3, _⟩ := slice_open hin he.1 t fuel cs x ht hx
  exact ⟨rows, v, h1, h2, fun r hr c hc => leafW_of (h3 r hr c hc)⟩
end
end Go.AI

/-
  SHORT NAMES for the printed texts.
-/
namespace Go.AI
abbrev LR := List (List AV)
abbrev LB := List UInt8
abbrev uk := AV.unk
abbrev ai := AV.i IntKind.i64
abbrev i6 := IntKind.i64
abbrev vw := Mark.view
abbrev OR := Option Res
end Go.AI

namespace Go.AI
abbrev Opt (β : Type) : Type := Option β
def us : Nat → List AV → List AV
  | 0, l => l
  | n + 1, l => uk :: us n l
abbrev Y0 (β : Type) : Type := Res → Option β
abbrev Y1 (β : Type) : Type := Bool → Option β
abbrev Y2 (β : Type) : Type := LR → Option β
abbrev Y3 (β : Type) : Type := Int → LB → Int → Option β
abbrev Y4 (β : Type) : Type := Option β → (Int → Option β) → Option β
abbrev Y5 (β : Type) : Type := LB → LR → (LR → Option β) → (Int → LR → Option β) → Option β
abbrev Y6 (β : Type) : Type := LB → Int → (Int → Option β) → Option β
abbrev Y7 (β : Type) : Type := Int → Option β
abbrev Y8 (β : Type) : Type := Int → Int → Option β
abbrev Y9 (β : Type) : Type := List AV → Int → LR → (LR → Option β) → (Int → LR → Option β) → Option β
abbrev Y10 (β : Type) : Type := LB → (Bool → Option β) → Option β
abbrev Y11 (β : Type) : Type := Int → LR → Option β
abbrev Y12 (β : Type) : Type := Int → LB → Int → (Int → Bool → Int → LB → LR → LR → LB → Int → Option β) → (Int → LB → Int → Option β) → Option β
abbrev Y13 (β : Type) : Type := LB → Int → Option β
abbrev Y14 (β : Type) : Type := LR → (LR → Option β) → Option β
abbrev Y15 (β : Type) : Type := Int → Option β → Option β
abbrev Y16 (β : Type) : Type := LR → LR → (Bool → Option β) → Option β
abbrev Y17 (β : Type) : Type := Int → LB → Int → (Int → Option β) → (Int → LB → Int → Option β) → Option β
abbrev Y18 (β : Type) : Type := LB → Int → (LB → Int → Option β) → (Int → LB → Int → Option β) → Option β
abbrev Y19 (β : Type) : Type := Int → LB → Int → Int → LR → LR → LB → LB → LB → Int → Int → LR → Int → Int → LR → LB → Int → Int → Int → Int → Int → LB → Int → Int → LR → LR → LB → LB → LB → Int → Int → LR → Int → Int → LR → LB → Int → Int → Int → Int → (Bool → Option β) → Option β
abbrev Y20 (β : Type) : Type := Int → LR → Int → Bool → Int → LB → LR → LR → Option β
abbrev Y21 (β : Type) : Type := Int → Bool → Int → LB → LR → LR → LB → Bool → (Int → Bool → Option β) → Option β
abbrev Y22 (β : Type) : Type := Int → Int → (Bool → Option β) → Option β
abbrev Y23 (β : Type) : Type := Int → (Bool → Option β) → Option β
abbrev Y24 (β : Type) : Type := Int → Bool → LR → LR → LB → Int → Option β
abbrev Y25 (β : Type) : Type := Int → Int → LR → Option β
abbrev Y26 (β : Type) : Type := LR → LR → Option β
abbrev Y27 (β : Type) : Type := LB → Int → (Int → Int → Option β) → (Int → LB → Int → Option β) → Option β
abbrev Y28 (β : Type) : Type := Int → Bool → Int → LB → LR → LR → LB → Bool → (LR → Bool → Option β) → Option β
abbrev Y29 (β : Type) : Type := LR → Int → Option β
abbrev Y30 (β : Type) : Type := Int → Int → Int → Option β
abbrev Y31 (β : Type) : Type := Int → Bool → Int → LB → LR → LR → LB → Bool → (Int → Bool → Int → LB → LR → LR → Bool → Option β) → Option β
abbrev Y32 (β : Type) : Type := LB → LB → Int → (Int → Option β) → (Int → LB → Int → Option β) → Option β
abbrev Y33 (β : Type) : Type := Int → Bool → Int → LB → LR → LR → LB → Bool → (LB → Bool → Option β) → Option β
abbrev Y34 (β : Type) : Type := Int → LB → Int → Int → LR → LR → LB → LB → LB → Int → Int → LR → Int → Int → LR → LB → Int → Int → Int → Int → (Bool → Option β) → Option β
abbrev Y35 (β : Type) : Type := LR → (LR → LR → Option β) → Option β
abbrev Y36 (β : Type) : Type := LR → (LB → Int → Option β) → Option β
abbrev Y37 (β : Type) : Type := Int → Bool → Int → LB → LR → LR → Int → Bool → (Bool → Option β) → Option β
abbrev Y38 (β : Type) : Type := LB → Int → (Int → Int → Option β) → Option β
abbrev Y39 (β : Type) : Type := List AV → Option β → (Int → Option β) → Option β
abbrev Y40 (β : Type) : Type := Int → Bool → Int → LB → LR → LR → Option β → (Int → Int → Bool → Int → LB → LR → LR → Option β) → Option β
abbrev Y41 (β : Type) : Type := Int → LR → Int → Bool → Int → LB → LR → LR → (LR → Option β) → (Int → LR → Int → Bool → Int → LB → LR → LR → Option β) → Option β
abbrev Y42 (β : Type) : Type := Bool → LB → Int → LR → LR → List (AV × AV) → Option β
abbrev Y43 (β : Type) : Type := Int → Int → Bool → LB → (Bool → Option β) → Option β
abbrev Y44 (β : Type) : Type := Int → Int → Bool → LB → (Int → Bool → Int → LB → Option β) → Option β
abbrev Y45 (β : Type) : Type := Bool → (LB → Option β) → Option β
abbrev Y46 (β : Type) : Type := Int → (LB → Option β) → Option β
abbrev Y47 (β : Type) : Type := Int → Int → Bool → Int → LB → LR → LR → Option β
abbrev Y48 (β : Type) : Type := Int → (LB → Int → Option β) → Option β
abbrev Y49 (β : Type) : Type := Int → Bool → Int → LB → LR → LR → Bool → (Int → Int → Bool → LB → Bool → Option β) → Option β
abbrev Y50 (β : Type) : Type := LB → Int → Int → LR → LR → Bool → Option β
abbrev Y51 (β : Type) : Type := LB → (LR → Int → Option β) → Option β
abbrev Y52 (β : Type) : Type := LR → Int → LR → Option β
abbrev Y53 (β : Type) : Type := Int → LR → Bool → Option β
abbrev Y54 (β : Type) : Type := LR → LR → Int → Option β
abbrev Y55 (β : Type) : Type := LB → LB → (LB → Option β) → Option β
abbrev Y56 (β : Type) : Type := Bool → Bool → Bool → Option β
abbrev Y57 (β : Type) : Type := Int → Int → Int → Int → Bool → LB → Int → Int → Bool → LB → (LR → LR → Option β) → Option β
abbrev Y58 (β : Type) : Type := Int → LB → Int → (LR → LR → Option β) → Option β
abbrev Y59 (β : Type) : Type := Int → Int → Int → (LR → LR → Option β) → Option β
abbrev Y60 (β : Type) : Type := Int → LB → Int → Int → LR → LR → LB → LB → LB → Int → Int → LR → Int → Int → LR → LB → Int → Int → Int → Int → (LR → LR → Option β) → Option β
abbrev Y61 (β : Type) : Type := Int → Bool → Int → LB → LR → LR → (LB → Int → Option β) → Option β
abbrev Y62 (β : Type) : Type := Int → Int → LB → Int → (Int → Bool → LR → LR → LB → Int → Option β) → (Int → LB → Int → Option β) → Option β
abbrev Y63 (β : Type) : Type := Int → Bool → Int → LB → LR → LR → LB → Int → Option β
abbrev Y64 (β : Type) : Type := LB → (Int → Bool → Int → LB → LR → LR → Int → Option β) → Option β
abbrev Y65 (β : Type) : Type := Int → Bool → Int → LB → LR → LR → Bool → Option β
abbrev Y66 (β : Type) : Type := Int → Bool → LR → Option β
abbrev Y67 (β : Type) : Type := Int → LR → Int → Bool → Option β
abbrev Y68 (β : Type) : Type := Int → Bool → Int → LB → LR → LR → Bool → (Int → LB → Int → Int → LR → LR → LB → LB → LB → Int → Int → LR → Int → Int → LR → LB → Int → Int → Int → Int → Bool → Option β) → Option β
abbrev Y69 (β : Type) : Type := Int → Int → Bool → LB → (Int → Int → Bool → LB → Option β) → Option β
abbrev Y70 (β : Type) : Type := LB → Int → Int → LR → LR → (Bool → Option β) → Option β
abbrev Y71 (β : Type) : Type := LB → LB → Int → (Bool → Option β) → Option β
abbrev Y72 (β : Type) : Type := Int → LR → Int → (Bool → Option β) → Option β
abbrev Y73 (β : Type) : Type := Int → LR → (Bool → Option β) → Option β
abbrev Y74 (β : Type) : Type := Int → List (AV × AV) → Option β
abbrev Y75 (β : Type) : Type := Int → Bool → Int → LB → LR → LR → Bool → (LB → Int → Int → LR → LR → Bool → Option β) → Option β
abbrev Y76 (β : Type) : Type := Int → Bool → Int → LB → LR → LR → Bool → (Int → LR → Int → Bool → Option β) → Option β
abbrev Y77 (β : Type) : Type := Int → Bool → Int → LB → LR → LR → Bool → (Int → LR → Bool → Option β) → Option β
abbrev Y78 (β : Type) : Type := LB → Int → Int → LR → LR → LB → Int → Int → LR → LR → (Bool → Option β) → Option β
abbrev Y79 (β : Type) : Type := Int → LR → Int → Int → LR → Int → (Bool → Option β) → Option β
abbrev Y80 (β : Type) : Type := LR → Bool → LB → Bool → Int → Int → Bool → Int → Int → LR → List (AV × AV) → Option β
abbrev Y81 (β : Type) : Type := Int → Bool → Int → LB → LR → LR → Int → Option β
abbrev Y82 (β : Type) : Type := Int → LB → Int → Int → LR → LR → LB → LB → LB → Int → Int → LR → Int → Int → LR → LB → Int → Int → Int → Int → Bool → Option β
end Go.AI

set_option linter.unusedVariables false
set_option linter.unusedSimpArgs false
set_option maxRecDepth 100000
namespace Go.AI
noncomputable section
open Go.Proofs
def T57al0 {α : Type} (r0 : Y29 α) (K : (LB → Opt α)) (s0_1 : LR) (s0_2 : Int) : Opt α :=
  (bif (ile s0_2 126) then (bif (room ((List.length s0_1) + 1) 1) then (r0 (radd s0_1 (((AV.i IntKind.u8 s0_2) :: []) :: [])) (wadd IntKind.u8 s0_2 1)) else none) else (K (bytesOf s0_1)))
def T57a {α : Type} (l0 : Y29 α) (K : (LB → Opt α)) : Opt α :=
  (l0 [] 33)
def L57al0 {α : Type} (k : Nat) (K : (LB → Opt α)) : Nat → LR → Int → Opt α
  | 0, _, _ => none
  | n + 1, s0_1, s0_2 => T57al0 (fun s0_1 s0_2 => L57al0 k K n s0_1 s0_2) K s0_1 s0_2
def f57a {α : Type} (k : Nat) (K : (LB → Opt α)) : Opt α := T57a (fun s0_1 s0_2 => (L57al0 k K k) s0_1 s0_2) K
def W57a (F : (LB → OR) → OR) : Spec := mkSpec [] [] fun h h' K => F (fun y0 => K (.ok (AV.s y0) []))
def R57al0 (ρ : FuncId → Fn) (jp : JP) (k : Nat) (K : Y0 Res) (n : Nat) (s0_1 : LR) (s0_2 : Int) : OR :=
  atLoop Tryz.prog Gl ρ (loopN k) jp Tryz.f57 0 K [1, 1, 0, 1, 0] [] n 3 ([(AV.s []), (AV.lst 5 s0_1 (Mark.tk (Tok.sl 1) 0)), (AV.i IntKind.u8 s0_2)] ++ (us 10 [])) [] []
theorem step57al0 (jp : JP) (k : Nat) (K : Y0 Res) (n : Nat) (s0_1 : LR) (s0_2 : Int) : R57al0 (rhoL []) jp k K (n + 1) s0_1 s0_2 = T57al0 (fun s0_1 s0_2 => R57al0 (rhoL []) jp k K n s0_1 s0_2) (fun y0 => K (.ok (AV.s y0) [])) s0_1 s0_2 := by kernel_rfl
theorem loop57al0 (k : Nat) (K : Y0 Res) : ∀ (n : Nat) (s0_1 : LR) (s0_2 : Int), R57al0 (rhoL []) jpId k K n s0_1 s0_2 = L57al0 k (fun y0 => K (.ok (AV.s y0) [])) n s0_1 s0_2 := by
  intro n
  induction n with
  | zero => intro s0_1 s0_2; kernel_rfl
  | succ n ih =>
    intro s0_1 s0_2
    rw [step57al0 jpId k K]
    simp only [ih]
    kernel_rfl
theorem run57a (jp : JP) (k : Nat) (K : Y0 Res) : runF Tryz.prog Gl (rhoL []) (loopN k) jp Tryz.f57 [] [] K = T57a (fun s0_1 s0_2 => R57al0 (rhoL []) jp k K k s0_1 s0_2) (fun y0 => K (.ok (AV.s y0) [])) := by kernel_rfl
theorem ok57a (k : Nat) : SpecOK Tryz.prog Gl (W57a (f57a k)) 57 :=
  mk_ok' (ρ := (rhoL [])) (rhoL_ok forall_nil) Tryz_mixed (g := 57) (fn := Tryz.f57) (by kernel_rfl) (by kernel_rfl) k fun h h' K => (run57a jpId k K).trans (by simp only [loop57al0 k K]; rfl)
def T26a {α : Type} (c57a : (LB → Opt α) → Opt α) (c56a : Y55 α) (K : Y1 α) (x0 : LB) : Opt α :=
  (bif (ige (slen x0) 1) then (bif (ile (slen x0) 64) then (c57a (fun y0 => (c56a x0 y0 (fun y1 => (K (seq y1 [])))))) else (K false)) else (K false))
def f26a {α : Type} (k : Nat) (x0 : LB) (K : Y1 α) : Opt α := T26a (f57a k) (f56a k) K x0
def W26a (F : Y10 Res) : Spec := mkSpec [(.c .s)] [] fun h h' K => F (hS (lget h 0 .no)) (fun y0 => K (.ok (AV.b y0) []))
theorem run26a (c57a : (LB → OR) → OR) (c56a : Y55 Res) (jp : JP) (k : Nat) (K : Y0 Res) (x0 : LB) : runF Tryz.prog Gl (rhoL [(57, W57a c57a), (56, W56a c56a)]) (loopN k) jp Tryz.f26 [(AV.s x0)] [] K = T26a c57a c56a (fun y0 => K (.ok (AV.b y0) [])) x0 := by kernel_rfl
theorem ok26a (k : Nat) : SpecOK Tryz.prog Gl (W26a (f26a k)) 26 :=
  mk_ok' (ρ := (rhoL [(57, W57a (f57a k)), (56, W56a (f56a k))])) (rhoL_ok (forall_cons (ok57a k) (forall_cons (ok56a k) forall_nil))) Tryz_mixed (g := 26) (fn := Tryz.f26) (by kernel_rfl) (by kernel_rfl) k fun h h' K => (run26a (f57a k) (f56a k) jpId k K (hS (lget h 0 .no))).trans rfl
def T54a {α : Type} (K : Y1 α) (x0 x1 : Int) : Opt α :=
  (bif (ige x0 0) then (K (ile x0 x1)) else (K false))
def f54a {α : Type} (k : Nat) (x0 x1 : Int) (K : Y1 α) : Opt α := T54a K x0 x1
def W54a (F : Y22 Res) : Spec := mkSpec [(.c (.i i6)), (.c (.i i6))] [] fun h h' K => F (hI (lget h 0 .no)) (hI (lget h 1 .no)) (fun y0 => K (.ok (AV.b y0) []))
theorem run54a (jp : JP) (k : Nat) (K : Y0 Res) (x0 x1 : Int) : runF Tryz.prog Gl (rhoL []) (loopN k) jp Tryz.f54 [(ai x0), (ai x1)] [] K = T54a (fun y0 => K (.ok (AV.b y0) [])) x0 x1 := by kernel_rfl
theorem ok54a (k : Nat) : SpecOK Tryz.prog Gl (W54a (f54a k)) 54 :=
  mk_ok' (ρ := (rhoL [])) (rhoL_ok forall_nil) Tryz_mixed (g := 54) (fn := Tryz.f54) (by kernel_rfl) (by kernel_rfl) k fun h h' K => (run54a jpId k K (hI (lget h 0 .no)) (hI (lget h 1 .no))).trans rfl
def T59a {α : Type} (K : Y1 α) (x0 : Int) : Opt α :=
  (bif (ige x0 1) then (K (ile x0 3)) else (K false))
def f59a {α : Type} (k : Nat) (x0 : Int) (K : Y1 α) : Opt α := T59a K x0
def W59a (F : Y23 Res) : Spec := mkSpec [(.c (.i i6))] [] fun h h' K => F (hI (lget h 0 .no)) (fun y0 => K (.ok (AV.b y0) []))
theorem run59a (jp : JP) (k : Nat) (K : Y0 Res) (x0 : Int) : runF Tryz.prog Gl (rhoL []) (loopN k) jp Tryz.f59 [(ai x0)] [] K = T59a (fun y0 => K (.ok (AV.b y0) [])) x0 := by kernel_rfl
theorem ok59a (k : Nat) : SpecOK Tryz.prog Gl (W59a (f59a k)) 59 :=
  mk_ok' (ρ := (rhoL [])) (rhoL_ok forall_nil) Tryz_mixed (g := 59) (fn := Tryz.f59) (by kernel_rfl) (by kernel_rfl) k fun h h' K => (run59a jpId k K (hI (lget h 0 .no))).trans rfl
def T96a {α : Type} (c59a : Y23 α) (K : Y1 α) (x0 : Int) : Opt α :=
  (bif (ieq x0 0) then (K true) else (c59a x0 (fun y0 => (K y0))))
def f96a {α : Type} (k : Nat) (x0 : Int) (K : Y1 α) : Opt α := T96a (f59a k) K x0
def W96a (F : Y23 Res) : Spec := mkSpec [(.c (.i i6))] [] fun h h' K => F (hI (lget h 0 .no)) (fun y0 => K (.ok (AV.b y0) []))
theorem run96a (c59a : Y23 Res) (jp : JP) (k : Nat) (K : Y0 Res) (x0 : Int) : runF Tryz.prog Gl (rhoL [(59, W59a c59a)]) (loopN k) jp Tryz.f96 [(ai x0)] [] K = T96a c59a (fun y0 => K (.ok (AV.b y0) [])) x0 := by kernel_rfl
theorem ok96a (k : Nat) : SpecOK Tryz.prog Gl (W96a (f96a k)) 96 :=
  mk_ok' (ρ := (rhoL [(59, W59a (f59a k))])) (rhoL_ok (forall_cons (ok59a k) forall_nil)) Tryz_mixed (g := 96) (fn := Tryz.f96) (by kernel_rfl) (by kernel_rfl) k fun h h' K => (run96a (f59a k) jpId k K (hI (lget h 0 .no))).trans rfl
def T97a {α : Type} (K : (Int → Int → Bool → LB → Opt α)) (x0 x1 : Int) (x2 : Bool) (x3 : LB) : Opt α :=
  (bif (ieq x0 1) then (K x0 x1 false []) else (bif (ieq x0 2) then (K x0 0 x2 []) else (bif (ieq x0 3) then (K x0 0 false x3) else (K 0 0 false []))))
def f97a {α : Type} (k : Nat) (x0 x1 : Int) (x2 : Bool) (x3 : LB) (K : (Int → Int → Bool → LB → Opt α)) : Opt α := T97a K x0 x1 x2 x3
def W97a (F : Y69 Res) : Spec := mkSpec [(.agg [(.i i6), (.i i6), .b, .s])] [] fun h h' K => F (hI (lget h 0 .no)) (hI (lget h 1 .no)) (hB (lget h 2 .no)) (hS (lget h 3 .no)) (fun y0 y1 y2 y3 => K (.ok (AV.agg [(ai y0), (ai y1), (AV.b y2), (AV.s y3)]) []))
theorem run97a (jp : JP) (k : Nat) (K : Y0 Res) (x0 x1 : Int) (x2 : Bool) (x3 : LB) : runF Tryz.prog Gl (rhoL []) (loopN k) jp Tryz.f97 [(AV.agg [(ai x0), (ai x1), (AV.b x2), (AV.s x3)])] [] K = T97a (fun y0 y1 y2 y3 => K (.ok (AV.agg [(ai y0), (ai y1), (AV.b y2), (AV.s y3)]) [])) x0 x1 x2 x3 := by kernel_rfl
theorem ok97a (k : Nat) : SpecOK Tryz.prog Gl (W97a (f97a k)) 97 :=
  mk_ok' (ρ := (rhoL [])) (rhoL_ok forall_nil) Tryz_mixed (g := 97) (fn := Tryz.f97) (by kernel_rfl) (by kernel_rfl) k fun h h' K => (run97a jpId k K (hI (lget h 0 .no)) (hI (lget h 1 .no)) (hB (lget h 2 .no)) (hS (lget h 3 .no))).trans rfl
def T165a {α : Type} (K : (Opt α)) : Opt α :=
  K
def f165a {α : Type} (k : Nat) (K : (Opt α)) : Opt α := T165a K
def W165a (F : (OR) → OR) : Spec := mkSpec [] [] fun h h' K => F (K (.ok (AV.agg [(ai 0), (ai 0), (ai 0), (ai 128), (ai 0), (ai 0), (ai 224), (ai 192), (ai 128), (ai 240), (ai 224), (ai 2048), (ai 248), (ai 240), (ai 65536)]) []))
theorem run165a (jp : JP) (k : Nat) (K : Y0 Res) : runF Tryz.prog Gl (rhoL []) (loopN k) jp Tryz.f165 [] [] K = T165a (K (.ok (AV.agg [(ai 0), (ai 0), (ai 0), (ai 128), (ai 0), (ai 0), (ai 224), (ai 192), (ai 128), (ai 240), (ai 224), (ai 2048), (ai 248), (ai 240), (ai 65536)]) [])) := by kernel_rfl
theorem ok165a (k : Nat) : SpecOK Tryz.prog Gl (W165a (f165a k)) 165 :=
  mk_ok' (ρ := (rhoL [])) (rhoL_ok forall_nil) Tryz_mixed (g := 165) (fn := Tryz.f165) (by kernel_rfl) (by kernel_rfl) k fun h h' K => (run165a jpId k K).trans rfl
def T166a {α : Type} (K : Y1 α) (x0 : Int) : Opt α :=
  (bif (ige x0 0) then (bif (ile x0 1114111) then (bif (ilt x0 55296) then (K true) else (K (igt x0 57343))) else (K false)) else (K false))
def f166a {α : Type} (k : Nat) (x0 : Int) (K : Y1 α) : Opt α := T166a K x0
def W166a (F : Y23 Res) : Spec := mkSpec [(.c (.i i6))] [] fun h h' K => F (hI (lget h 0 .no)) (fun y0 => K (.ok (AV.b y0) []))
theorem run166a (jp : JP) (k : Nat) (K : Y0 Res) (x0 : Int) : runF Tryz.prog Gl (rhoL []) (loopN k) jp Tryz.f166 [(ai x0)] [] K = T166a (fun y0 => K (.ok (AV.b y0) [])) x0 := by kernel_rfl
theorem ok166a (k : Nat) : SpecOK Tryz.prog Gl (W166a (f166a k)) 166 :=
  mk_ok' (ρ := (rhoL [])) (rhoL_ok forall_nil) Tryz_mixed (g := 166) (fn := Tryz.f166) (by kernel_rfl) (by kernel_rfl) k fun h h' K => (run166a jpId k K (hI (lget h 0 .no))).trans rfl
def h156a_0 (s0_19 : Int) : List AV :=
  (rget (((ai 0) :: ((ai 0) :: ((ai 0) :: []))) :: (((ai 128) :: ((ai 0) :: ((ai 0) :: []))) :: (((ai 224) :: ((ai 192) :: ((ai 128) :: []))) :: (((ai 240) :: ((ai 224) :: ((ai 2048) :: []))) :: (((ai 248) :: ((ai 240) :: ((ai 65536) :: []))) :: []))))) s0_19)
def T156al1 {α : Type} (c166a : Y23 α) (r1 : Y8 α) (K : Y8 α) (s0_19 : Int) (x0 : LB) (x1 s1_5 s1_6 : Int) : Opt α :=
  (bif (ilt s1_6 (wadd i6 x1 s0_19)) then (bif (ile 0 s1_6) then (bif (ilt s1_6 (slen x0)) then (bif (ine (wand IntKind.u8 (sat x0 s1_6) 192) 128) then (K 0 0) else (bif (ile 0 s1_6) then (bif (ilt s1_6 (slen x0)) then (r1 (wor i6 (wshl i6 s1_5 6) (wcv i6 (wand IntKind.u8 (sat x0 s1_6) 63))) (wadd i6 s1_6 1)) else none) else none)) else none) else none) else (bif (ilt s1_5 (toI (lget (h156a_0 s0_19) 2 uk))) then (K 0 0) else (c166a s1_5 (fun y0 => (bif (Bool.not y0) then (K 0 0) else (K s1_5 s0_19))))))
def T156al0 {α : Type} (l1 : Int → LB → Int → Int → Int → Opt α) (r0 : Y7 α) (K : Y8 α) (x0 : LB) (x1 s0_19 : Int) : Opt α :=
  (bif (ilt s0_19 5) then (bif (ile 0 s0_19) then (bif (ilt s0_19 5) then (bif (ieq s0_19 0) then (r0 (wadd i6 s0_19 1)) else (bif (ile 0 x1) then (bif (ilt x1 (slen x0)) then (bif (ine (wand i6 (wcv i6 (sat x0 x1)) (toI (lget (h156a_0 s0_19) 0 uk))) (toI (lget (h156a_0 s0_19) 1 uk))) then (r0 (wadd i6 s0_19 1)) else (bif (igt s0_19 (wsub i6 (slen x0) x1)) then (K 0 0) else (bif (ile 0 x1) then (bif (ilt x1 (slen x0)) then (l1 s0_19 x0 x1 (wandn i6 (wcv i6 (sat x0 x1)) (toI (lget (h156a_0 s0_19) 0 uk))) (wadd i6 x1 1)) else none) else none))) else none) else none)) else none) else none) else (K 0 0))
def T156a {α : Type} (c165a : (Opt α) → Opt α) (l0 : LB → Int → Int → Opt α) (K : Y8 α) (x0 : LB) (x1 : Int) : Opt α :=
  (bif (ilt x1 0) then (K 0 0) else (bif (ige x1 (slen x0)) then (K 0 0) else (c165a (l0 x0 x1 0))))
def L156al1 {α : Type} (k : Nat) (K : Y8 α) (s0_19 : Int) (x0 : LB) (x1 : Int) : Nat → Int → Int → Opt α
  | 0, _, _ => none
  | n + 1, s1_5, s1_6 => T156al1 (f166a k) (fun s1_5 s1_6 => L156al1 k K s0_19 x0 x1 n s1_5 s1_6) K s0_19 x0 x1 s1_5 s1_6
def L156al0 {α : Type} (k : Nat) (K : Y8 α) (x0 : LB) (x1 : Int) : Nat → Int → Opt α
  | 0, _ => none
  | n + 1, s0_19 => T156al0 (fun s0_19 x0 x1 s1_5 s1_6 => (L156al1 k K s0_19 x0 x1 k) s1_5 s1_6) (fun s0_19 => L156al0 k K x0 x1 n s0_19) K x0 x1 s0_19
def f156a {α : Type} (k : Nat) (x0 : LB) (x1 : Int) (K : Y8 α) : Opt α := T156a (f165a k) (fun x0 x1 s0_19 => (L156al0 k K x0 x1 k) s0_19) K x0 x1
def W156a (F : Y38 Res) : Spec := mkSpec [(.c .s), (.c (.i i6))] [] fun h h' K => F (hS (lget h 0 .no)) (hI (lget h 1 .no)) (fun y0 y1 => K (.ok (AV.tup [(ai y0), (ai y1)]) []))
def R156al1 (ρ : FuncId → Fn) (jp : JP) (k : Nat) (K : Y0 Res) (m0 : Nat) (s0_19 : Int) (x0 : LB) (x1 : Int) (n : Nat) (s1_5 s1_6 : Int) : OR :=
  atLoop Tryz.prog Gl ρ (loopN k) jp Tryz.f156 0 K [1, 1, 0, 1, 0, 0, 1, 1, 0, 0, 1, 1, 1, 1, 0, 1, 0] [(m0, 14)] n 53 ([(AV.s x0), (ai x1), uk, uk, (ai 0), (ai 0), (ai s0_19), (AV.ptr 17 0), (ai s1_5), (ai s1_6)] ++ (us 8 ([(AV.agg [(ai 0), (ai 0), (ai 0), (ai 128), (ai 0), (ai 0), (ai 224), (ai 192), (ai 128), (ai 240), (ai 224), (ai 2048), (ai 248), (ai 240), (ai 65536)]), (ai s0_19)] ++ (us 64 [])))) [(Prod.mk 17 (AObj.box [(ai (toI (lget (h156a_0 s0_19) 0 uk))), (ai (toI (lget (h156a_0 s0_19) 1 uk))), (ai (toI (lget (h156a_0 s0_19) 2 uk)))]))] []
def R156al0 (ρ : FuncId → Fn) (jp : JP) (k : Nat) (K : Y0 Res) (x0 : LB) (x1 : Int) (n : Nat) (s0_19 : Int) : OR :=
  atLoop Tryz.prog Gl ρ (loopN k) jp Tryz.f156 0 K [1, 1, 0, 1, 0] [] n 14 ([(AV.s x0), (ai x1), uk, uk, (ai 0), (ai 0)] ++ (us 12 ([(AV.agg [(ai 0), (ai 0), (ai 0), (ai 128), (ai 0), (ai 0), (ai 224), (ai 192), (ai 128), (ai 240), (ai 224), (ai 2048), (ai 248), (ai 240), (ai 65536)]), (ai s0_19)] ++ (us 64 [])))) [] []
theorem step156al1 (c165a : (OR) → OR) (c166a : Y23 Res) (jp : JP) (k : Nat) (K : Y0 Res) (m0 : Nat) (s0_19 : Int) (x0 : LB) (x1 : Int) (n : Nat) (s1_5 s1_6 : Int) : R156al1 (rhoL [(165, W165a c165a), (166, W166a c166a)]) jp k K m0 s0_19 x0 x1 (n + 1) s1_5 s1_6 = T156al1 c166a (fun s1_5 s1_6 => R156al1 (rhoL [(165, W165a c165a), (166, W166a c166a)]) jp k K m0 s0_19 x0 x1 n s1_5 s1_6) (fun y0 y1 => K (.ok (AV.tup [(ai y0), (ai y1)]) [])) s0_19 x0 x1 s1_5 s1_6 := by kernel_rfl
theorem step156al0 (c165a : (OR) → OR) (c166a : Y23 Res) (jp : JP) (k : Nat) (K : Y0 Res) (x0 : LB) (x1 : Int) (n : Nat) (s0_19 : Int) : R156al0 (rhoL [(165, W165a c165a), (166, W166a c166a)]) jp k K x0 x1 (n + 1) s0_19 = T156al0 (fun s0_19 x0 x1 s1_5 s1_6 => R156al1 (rhoL [(165, W165a c165a), (166, W166a c166a)]) jp k K n s0_19 x0 x1 k s1_5 s1_6) (fun s0_19 => R156al0 (rhoL [(165, W165a c165a), (166, W166a c166a)]) jp k K x0 x1 n s0_19) (fun y0 y1 => K (.ok (AV.tup [(ai y0), (ai y1)]) [])) x0 x1 s0_19 := by kernel_rfl
theorem loop156al1 (k : Nat) (K : Y0 Res) (m0 : Nat) (s0_19 : Int) (x0 : LB) (x1 : Int) : ∀ (n : Nat) (s1_5 s1_6 : Int), R156al1 (rhoL [(165, W165a (f165a k)), (166, W166a (f166a k))]) jpId k K m0 s0_19 x0 x1 n s1_5 s1_6 = L156al1 k (fun y0 y1 => K (.ok (AV.tup [(ai y0), (ai y1)]) [])) s0_19 x0 x1 n s1_5 s1_6 := by
  intro n
  induction n generalizing m0 s0_19 x0 x1 with
  | zero => intro s1_5 s1_6; kernel_rfl
  | succ n ih =>
    intro s1_5 s1_6
    rw [step156al1 (f165a k) (f166a k) jpId k K]
    simp only [ih]
    kernel_rfl
theorem loop156al0 (k : Nat) (K : Y0 Res) (x0 : LB) (x1 : Int) : ∀ (n : Nat) (s0_19 : Int), R156al0 (rhoL [(165, W165a (f165a k)), (166, W166a (f166a k))]) jpId k K x0 x1 n s0_19 = L156al0 k (fun y0 y1 => K (.ok (AV.tup [(ai y0), (ai y1)]) [])) x0 x1 n s0_19 := by
  intro n
  induction n generalizing x0 x1 with
  | zero => intro s0_19; kernel_rfl
  | succ n ih =>
    intro s0_19
    rw [step156al0 (f165a k) (f166a k) jpId k K]
    simp only [loop156al1 k K, ih]
    kernel_rfl
theorem run156a (c165a : (OR) → OR) (c166a : Y23 Res) (jp : JP) (k : Nat) (K : Y0 Res) (x0 : LB) (x1 : Int) : runF Tryz.prog Gl (rhoL [(165, W165a c165a), (166, W166a c166a)]) (loopN k) jp Tryz.f156 [(AV.s x0), (ai x1)] [] K = T156a c165a (fun x0 x1 s0_19 => R156al0 (rhoL [(165, W165a c165a), (166, W166a c166a)]) jp k K x0 x1 k s0_19) (fun y0 y1 => K (.ok (AV.tup [(ai y0), (ai y1)]) [])) x0 x1 := by kernel_rfl
theorem ok156a (k : Nat) : SpecOK Tryz.prog Gl (W156a (f156a k)) 156 :=
  mk_ok' (ρ := (rhoL [(165, W165a (f165a k)), (166, W166a (f166a k))])) (rhoL_ok (forall_cons (ok165a k) (forall_cons (ok166a k) forall_nil))) Tryz_mixed (g := 156) (fn := Tryz.f156) (by kernel_rfl) (by kernel_rfl) k fun h h' K => (run156a (f165a k) (f166a k) jpId k K (hS (lget h 0 .no)) (hI (lget h 1 .no))).trans (by simp only [loop156al0 k K]; rfl)
def T144al0 {α : Type} (c156a : Y38 α) (r0 : Y7 α) (K : Y7 α) (x0 : LB) (s0_2 : Int) : Opt α :=
  (bif (ilt s0_2 (slen x0)) then (c156a x0 s0_2 (fun y0 y1 => (bif (ieq y1 0) then (K s0_2) else (r0 (wadd i6 s0_2 y1))))) else (K (-1)))
def T144a {α : Type} (l0 : Y13 α) (K : Y7 α) (x0 : LB) : Opt α :=
  (l0 x0 0)
def L144al0 {α : Type} (k : Nat) (K : Y7 α) (x0 : LB) : Nat → Int → Opt α
  | 0, _ => none
  | n + 1, s0_2 => T144al0 (f156a k) (fun s0_2 => L144al0 k K x0 n s0_2) K x0 s0_2
def f144a {α : Type} (k : Nat) (x0 : LB) (K : Y7 α) : Opt α := T144a (fun x0 s0_2 => (L144al0 k K x0 k) s0_2) K x0
def W144a (F : LB → (Int → OR) → OR) : Spec := mkSpec [(.c .s)] [] fun h h' K => F (hS (lget h 0 .no)) (fun y0 => K (.ok (ai y0) []))
def R144al0 (ρ : FuncId → Fn) (jp : JP) (k : Nat) (K : Y0 Res) (x0 : LB) (n : Nat) (s0_2 : Int) : OR :=
  atLoop Tryz.prog Gl ρ (loopN k) jp Tryz.f144 0 K [1, 0, 1, 0] [] n 2 ([(AV.s x0), uk, (ai 0), (ai s0_2)] ++ (us 18 [])) [] []
theorem step144al0 (c156a : Y38 Res) (jp : JP) (k : Nat) (K : Y0 Res) (x0 : LB) (n : Nat) (s0_2 : Int) : R144al0 (rhoL [(156, W156a c156a)]) jp k K x0 (n + 1) s0_2 = T144al0 c156a (fun s0_2 => R144al0 (rhoL [(156, W156a c156a)]) jp k K x0 n s0_2) (fun y0 => K (.ok (ai y0) [])) x0 s0_2 := by kernel_rfl
theorem loop144al0 (k : Nat) (K : Y0 Res) (x0 : LB) : ∀ (n : Nat) (s0_2 : Int), R144al0 (rhoL [(156, W156a (f156a k))]) jpId k K x0 n s0_2 = L144al0 k (fun y0 => K (.ok (ai y0) [])) x0 n s0_2 := by
  intro n
  induction n generalizing x0 with
  | zero => intro s0_2; kernel_rfl
  | succ n ih =>
    intro s0_2
    rw [step144al0 (f156a k) jpId k K]
    simp only [ih]
    kernel_rfl
theorem run144a (c156a : Y38 Res) (jp : JP) (k : Nat) (K : Y0 Res) (x0 : LB) : runF Tryz.prog Gl (rhoL [(156, W156a c156a)]) (loopN k) jp Tryz.f144 [(AV.s x0)] [] K = T144a (fun x0 s0_2 => R144al0 (rhoL [(156, W156a c156a)]) jp k K x0 k s0_2) (fun y0 => K (.ok (ai y0) [])) x0 := by kernel_rfl
theorem ok144a (k : Nat) : SpecOK Tryz.prog Gl (W144a (f144a k)) 144 :=
  mk_ok' (ρ := (rhoL [(156, W156a (f156a k))])) (rhoL_ok (forall_cons (ok156a k) forall_nil)) Tryz_mixed (g := 144) (fn := Tryz.f144) (by kernel_rfl) (by kernel_rfl) k fun h h' K => (run144a (f156a k) jpId k K (hS (lget h 0 .no))).trans (by simp only [loop144al0 k K]; rfl)
def T98a {α : Type} (c144a : LB → (Int → Opt α) → Opt α) (K : Y1 α) (x0 : LB) : Opt α :=
  (c144a x0 (fun y0 => (K (ilt y0 0))))
def f98a {α : Type} (k : Nat) (x0 : LB) (K : Y1 α) : Opt α := T98a (f144a k) K x0
def W98a (F : Y10 Res) : Spec := mkSpec [(.c .s)] [] fun h h' K => F (hS (lget h 0 .no)) (fun y0 => K (.ok (AV.b y0) []))
theorem run98a (c144a : LB → (Int → OR) → OR) (jp : JP) (k : Nat) (K : Y0 Res) (x0 : LB) : runF Tryz.prog Gl (rhoL [(144, W144a c144a)]) (loopN k) jp Tryz.f98 [(AV.s x0)] [] K = T98a c144a (fun y0 => K (.ok (AV.b y0) [])) x0 := by kernel_rfl
theorem ok98a (k : Nat) : SpecOK Tryz.prog Gl (W98a (f98a k)) 98 :=
  mk_ok' (ρ := (rhoL [(144, W144a (f144a k))])) (rhoL_ok (forall_cons (ok144a k) forall_nil)) Tryz_mixed (g := 98) (fn := Tryz.f98) (by kernel_rfl) (by kernel_rfl) k fun h h' K => (run98a (f144a k) jpId k K (hS (lget h 0 .no))).trans rfl
def T55a {α : Type} (c96a : Y23 α) (c97a : Y69 α) (c98a : Y10 α) (K : Y1 α) (x0 x1 : Int) (x2 : Bool) (x3 : LB) : Opt α :=
  (c96a x0 (fun y0 => (bif y0 then (c97a x0 x1 x2 x3 (fun y1 y2 y3 y4 => (bif (Bool.and (ieq x0 y1) (Bool.and (ieq x1 y2) (Bool.and (beqB x2 y3) (Bool.and (seq x3 y4) true)))) then (bif (ile (slen x3) 64) then (c98a x3 (fun y5 => (K y5))) else (K false)) else (K false)))) else (K false))))
def f55a {α : Type} (k : Nat) (x0 x1 : Int) (x2 : Bool) (x3 : LB) (K : Y1 α) : Opt α := T55a (f96a k) (f97a k) (f98a k) K x0 x1 x2 x3
def W55a (F : Y43 Res) : Spec := mkSpec [(.agg [(.i i6), (.i i6), .b, .s])] [] fun h h' K => F (hI (lget h 0 .no)) (hI (lget h 1 .no)) (hB (lget h 2 .no)) (hS (lget h 3 .no)) (fun y0 => K (.ok (AV.b y0) []))
theorem run55a (c96a : Y23 Res) (c97a : Y69 Res) (c98a : Y10 Res) (jp : JP) (k : Nat) (K : Y0 Res) (x0 x1 : Int) (x2 : Bool) (x3 : LB) : runF Tryz.prog Gl (rhoL [(96, W96a c96a), (97, W97a c97a), (98, W98a c98a)]) (loopN k) jp Tryz.f55 [(AV.agg [(ai x0), (ai x1), (AV.b x2), (AV.s x3)])] [] K = T55a c96a c97a c98a (fun y0 => K (.ok (AV.b y0) [])) x0 x1 x2 x3 := by kernel_rfl
theorem ok55a (k : Nat) : SpecOK Tryz.prog Gl (W55a (f55a k)) 55 :=
  mk_ok' (ρ := (rhoL [(96, W96a (f96a k)), (97, W97a (f97a k)), (98, W98a (f98a k))])) (rhoL_ok (forall_cons (ok96a k) (forall_cons (ok97a k) (forall_cons (ok98a k) forall_nil)))) Tryz_mixed (g := 55) (fn := Tryz.f55) (by kernel_rfl) (by kernel_rfl) k fun h h' K => (run55a (f96a k) (f97a k) (f98a k) jpId k K (hI (lget h 0 .no)) (hI (lget h 1 .no)) (hB (lget h 2 .no)) (hS (lget h 3 .no))).trans rfl
def T25al1 {α : Type} (c54a : Y22 α) (c55a : Y43 α) (r1 : Y8 α) (K : Y1 α) (x0 : LB) (x1 x2 : Int) (x3 x4 : LR) (s1_1 s1_4 : Int) : Opt α :=
  (bif (ilt s1_4 (rlen x4)) then (bif (ile 0 s1_4) then (bif (ilt s1_4 (rlen x4)) then (bif (ile (toI (lget (rget x4 s1_4) 0 uk)) s1_1) then (K false) else (c54a (toI (lget (rget x4 s1_4) 1 uk)) x1 (fun y3 => (bif (Bool.not y3) then (K false) else (c55a (toI (lget (rget x4 s1_4) 2 uk)) (toI (lget (rget x4 s1_4) 3 uk)) (toB (lget (rget x4 s1_4) 4 uk)) (toS (lget (rget x4 s1_4) 5 uk)) (fun y4 => (bif (Bool.not y4) then (K false) else (c55a (toI (lget (rget x4 s1_4) 6 uk)) (toI (lget (rget x4 s1_4) 7 uk)) (toB (lget (rget x4 s1_4) 8 uk)) (toS (lget (rget x4 s1_4) 9 uk)) (fun y5 => (bif (Bool.not y5) then (K false) else (r1 (toI (lget (rget x4 s1_4) 0 uk)) (wadd i6 s1_4 1)))))))))))) else none) else none) else (K true))
def T25al0 {α : Type} (c55a : Y43 α) (l1 : LB → Int → Int → LR → LR → Int → Int → Opt α) (r0 : Y7 α) (K : Y1 α) (x0 : LB) (x1 x2 : Int) (x3 x4 : LR) (s0_3 : Int) : Opt α :=
  (bif (ilt s0_3 (rlen x3)) then (bif (ile 0 s0_3) then (bif (ilt s0_3 (rlen x3)) then (c55a (toI (lget (rget x3 s0_3) 0 uk)) (toI (lget (rget x3 s0_3) 1 uk)) (toB (lget (rget x3 s0_3) 2 uk)) (toS (lget (rget x3 s0_3) 3 uk)) (fun y3 => (bif (Bool.not y3) then (K false) else (r0 (wadd i6 s0_3 1))))) else none) else none) else (l1 x0 x1 x2 x3 x4 0 0))
def T25a {α : Type} (c26a : Y10 α) (c54a : Y22 α) (l0 : LB → Int → Int → LR → LR → Int → Opt α) (K : Y1 α) (x0 : LB) (x1 x2 : Int) (x3 x4 : LR) : Opt α :=
  (c26a x0 (fun y0 => (bif (Bool.not y0) then (K false) else (c54a x1 4096 (fun y1 => (bif (Bool.not y1) then (K false) else (c54a x2 2147483647 (fun y2 => (bif (Bool.not y2) then (K false) else (bif (igt (rlen x3) 4) then (K false) else (bif (igt (rlen x4) 12) then (K false) else (l0 x0 x1 x2 x3 x4 0))))))))))))
def L25al1 {α : Type} (k : Nat) (K : Y1 α) (x0 : LB) (x1 x2 : Int) (x3 x4 : LR) : Nat → Int → Int → Opt α
  | 0, _, _ => none
  | n + 1, s1_1, s1_4 => T25al1 (f54a k) (f55a k) (fun s1_1 s1_4 => L25al1 k K x0 x1 x2 x3 x4 n s1_1 s1_4) K x0 x1 x2 x3 x4 s1_1 s1_4
def L25al0 {α : Type} (k : Nat) (K : Y1 α) (x0 : LB) (x1 x2 : Int) (x3 x4 : LR) : Nat → Int → Opt α
  | 0, _ => none
  | n + 1, s0_3 => T25al0 (f55a k) (fun x0 x1 x2 x3 x4 s1_1 s1_4 => (L25al1 k K x0 x1 x2 x3 x4 k) s1_1 s1_4) (fun s0_3 => L25al0 k K x0 x1 x2 x3 x4 n s0_3) K x0 x1 x2 x3 x4 s0_3
def f25a {α : Type} (k : Nat) (x0 : LB) (x1 x2 : Int) (x3 x4 : LR) (K : Y1 α) : Opt α := T25a (f26a k) (f54a k) (fun x0 x1 x2 x3 x4 s0_3 => (L25al0 k K x0 x1 x2 x3 x4 k) s0_3) K x0 x1 x2 x3 x4
def W25a (F : Y70 Res) : Spec := mkSpec [(.agg [.s, (.i i6), (.i i6), (.l 61 vw), (.l 63 vw)])] [] fun h h' K => F (hS (lget h 0 .no)) (hI (lget h 1 .no)) (hI (lget h 2 .no)) (hR (lget h 3 .no)) (hR (lget h 4 .no)) (fun y0 => K (.ok (AV.b y0) []))
def R25al1 (ρ : FuncId → Fn) (jp : JP) (k : Nat) (K : Y0 Res) (x0 : LB) (x1 x2 : Int) (x3 x4 : LR) (n : Nat) (s1_1 s1_4 : Int) : OR :=
  atLoop Tryz.prog Gl ρ (loopN k) jp Tryz.f25 0 K [1, 1, 1, 1, 0, 1, 0] [] n 51 ([uk, (AV.ptr 0 0), (AV.b false), uk, uk, (ai s1_1)] ++ (us 42 ([(AV.lst 63 x4 vw), (ai (rlen x4)), (ai s1_4)] ++ (us 30 [])))) [(Prod.mk 0 (AObj.box [(AV.s x0), (ai x1), (ai x2), (AV.lst 61 x3 vw), (AV.lst 63 x4 vw)]))] []
def R25al0 (ρ : FuncId → Fn) (jp : JP) (k : Nat) (K : Y0 Res) (x0 : LB) (x1 x2 : Int) (x3 x4 : LR) (n : Nat) (s0_3 : Int) : OR :=
  atLoop Tryz.prog Gl ρ (loopN k) jp Tryz.f25 0 K [1, 1, 0, 1, 0] [] n 35 ([uk, (AV.ptr 0 0), (AV.b false)] ++ (us 34 ([(AV.lst 61 x3 vw), (ai (rlen x3)), (ai s0_3)] ++ (us 41 [])))) [(Prod.mk 0 (AObj.box [(AV.s x0), (ai x1), (ai x2), (AV.lst 61 x3 vw), (AV.lst 63 x4 vw)]))] []
theorem step25al1 (c26a : Y10 Res) (c54a : Y22 Res) (c55a : Y43 Res) (jp : JP) (k : Nat) (K : Y0 Res) (x0 : LB) (x1 x2 : Int) (x3 x4 : LR) (n : Nat) (s1_1 s1_4 : Int) : R25al1 (rhoL [(26, W26a c26a), (54, W54a c54a), (55, W55a c55a)]) jp k K x0 x1 x2 x3 x4 (n + 1) s1_1 s1_4 = T25al1 c54a c55a (fun s1_1 s1_4 => R25al1 (rhoL [(26, W26a c26a), (54, W54a c54a), (55, W55a c55a)]) jp k K x0 x1 x2 x3 x4 n s1_1 s1_4) (fun y0 => K (.ok (AV.b y0) [])) x0 x1 x2 x3 x4 s1_1 s1_4 := by kernel_rfl
theorem step25al0 (c26a : Y10 Res) (c54a : Y22 Res) (c55a : Y43 Res) (jp : JP) (k : Nat) (K : Y0 Res) (x0 : LB) (x1 x2 : Int) (x3 x4 : LR) (n : Nat) (s0_3 : Int) : R25al0 (rhoL [(26, W26a c26a), (54, W54a c54a), (55, W55a c55a)]) jp k K x0 x1 x2 x3 x4 (n + 1) s0_3 = T25al0 c55a (fun x0 x1 x2 x3 x4 s1_1 s1_4 => R25al1 (rhoL [(26, W26a c26a), (54, W54a c54a), (55, W55a c55a)]) jp k K x0 x1 x2 x3 x4 k s1_1 s1_4) (fun s0_3 => R25al0 (rhoL [(26, W26a c26a), (54, W54a c54a), (55, W55a c55a)]) jp k K x0 x1 x2 x3 x4 n s0_3) (fun y0 => K (.ok (AV.b y0) [])) x0 x1 x2 x3 x4 s0_3 := by kernel_rfl
theorem loop25al1 (k : Nat) (K : Y0 Res) (x0 : LB) (x1 x2 : Int) (x3 x4 : LR) : ∀ (n : Nat) (s1_1 s1_4 : Int), R25al1 (rhoL [(26, W26a (f26a k)), (54, W54a (f54a k)), (55, W55a (f55a k))]) jpId k K x0 x1 x2 x3 x4 n s1_1 s1_4 = L25al1 k (fun y0 => K (.ok (AV.b y0) [])) x0 x1 x2 x3 x4 n s1_1 s1_4 := by
  intro n
  induction n generalizing x0 x1 x2 x3 x4 with
  | zero => intro s1_1 s1_4; kernel_rfl
  | succ n ih =>
    intro s1_1 s1_4
    rw [step25al1 (f26a k) (f54a k) (f55a k) jpId k K]
    simp only [ih]
    kernel_rfl
theorem loop25al0 (k : Nat) (K : Y0 Res) (x0 : LB) (x1 x2 : Int) (x3 x4 : LR) : ∀ (n : Nat) (s0_3 : Int), R25al0 (rhoL [(26, W26a (f26a k)), (54, W54a (f54a k)), (55, W55a (f55a k))]) jpId k K x0 x1 x2 x3 x4 n s0_3 = L25al0 k (fun y0 => K (.ok (AV.b y0) [])) x0 x1 x2 x3 x4 n s0_3 := by
  intro n
  induction n generalizing x0 x1 x2 x3 x4 with
  | zero => intro s0_3; kernel_rfl
  | succ n ih =>
    intro s0_3
    rw [step25al0 (f26a k) (f54a k) (f55a k) jpId k K]
    simp only [loop25al1 k K, ih]
    kernel_rfl
theorem run25a (c26a : Y10 Res) (c54a : Y22 Res) (c55a : Y43 Res) (jp : JP) (k : Nat) (K : Y0 Res) (x0 : LB) (x1 x2 : Int) (x3 x4 : LR) : runF Tryz.prog Gl (rhoL [(26, W26a c26a), (54, W54a c54a), (55, W55a c55a)]) (loopN k) jp Tryz.f25 [(AV.agg [(AV.s x0), (ai x1), (ai x2), (AV.lst 61 x3 vw), (AV.lst 63 x4 vw)])] [] K = T25a c26a c54a (fun x0 x1 x2 x3 x4 s0_3 => R25al0 (rhoL [(26, W26a c26a), (54, W54a c54a), (55, W55a c55a)]) jp k K x0 x1 x2 x3 x4 k s0_3) (fun y0 => K (.ok (AV.b y0) [])) x0 x1 x2 x3 x4 := by kernel_rfl
theorem ok25a (k : Nat) : SpecOK Tryz.prog Gl (W25a (f25a k)) 25 :=
  mk_ok' (ρ := (rhoL [(26, W26a (f26a k)), (54, W54a (f54a k)), (55, W55a (f55a k))])) (rhoL_ok (forall_cons (ok26a k) (forall_cons (ok54a k) (forall_cons (ok55a k) forall_nil)))) Tryz_mixed (g := 25) (fn := Tryz.f25) (by kernel_rfl) (by kernel_rfl) k fun h h' K => (run25a (f26a k) (f54a k) (f55a k) jpId k K (hS (lget h 0 .no)) (hI (lget h 1 .no)) (hI (lget h 2 .no)) (hR (lget h 3 .no)) (hR (lget h 4 .no))).trans (by simp only [loop25al0 k K]; rfl)
def T32aj4 {α : Type} (K : Y1 α) (x0 : Int) (x1 : LB) (x2 x3 : Int) (x4 x5 : LR) (x6 x7 x8 : LB) (x9 x10 : Int) (x11 : LR) (x12 x13 : Int) (x14 : LR) (x15 : LB) (x16 x17 x18 x19 x20 : Int) (x21 : LB) (x22 x23 : Int) (x24 x25 : LR) (x26 x27 x28 : LB) (x29 x30 : Int) (x31 : LR) (x32 x33 : Int) (x34 : LR) (x35 : LB) (x36 x37 x38 x39 : Int) (t2_0 t2_1 t4_2 : Bool) : Opt α :=
  (bif t2_1 then (bif t4_2 then (bif (seq x6 x26) then (bif (Bool.and (seq x7 x27) (Bool.and (seq x8 x28) (Bool.and (ieq x9 x29) true))) then (bif (seq x15 x35) then (bif (ieq x16 x36) then (bif (ieq x17 x37) then (bif (ieq x18 x38) then (K (ieq x19 x39)) else (K false)) else (K false)) else (K false)) else (K false)) else (K false)) else (K false)) else (K false)) else (K false))
def T32aj2 {α : Type} (j4 : Y56 α) (K : Y1 α) (x0 : Int) (x1 : LB) (x2 x3 : Int) (x4 x5 : LR) (x6 x7 x8 : LB) (x9 x10 : Int) (x11 : LR) (x12 x13 : Int) (x14 : LR) (x15 : LB) (x16 x17 x18 x19 x20 : Int) (x21 : LB) (x22 x23 : Int) (x24 x25 : LR) (x26 x27 x28 : LB) (x29 x30 : Int) (x31 : LR) (x32 x33 : Int) (x34 : LR) (x35 : LB) (x36 x37 x38 x39 : Int) (t2_0 t2_1 : Bool) : Opt α :=
  (bif (ieq x10 x30) then (bif (ieq x12 x32) then (bif (ieq (rlen x11) (rlen x31)) then (bif (ieq x13 x33) then (j4 t2_0 t2_1 (ieq (rlen x14) (rlen x34))) else (j4 t2_0 t2_1 false)) else (j4 t2_0 t2_1 false)) else (j4 t2_0 t2_1 false)) else (j4 t2_0 t2_1 false))
def T32a {α : Type} (j2 : Bool → Bool → Opt α) (K : Y1 α) (x0 : Int) (x1 : LB) (x2 x3 : Int) (x4 x5 : LR) (x6 x7 x8 : LB) (x9 x10 : Int) (x11 : LR) (x12 x13 : Int) (x14 : LR) (x15 : LB) (x16 x17 x18 x19 x20 : Int) (x21 : LB) (x22 x23 : Int) (x24 x25 : LR) (x26 x27 x28 : LB) (x29 x30 : Int) (x31 : LR) (x32 x33 : Int) (x34 : LR) (x35 : LB) (x36 x37 x38 x39 : Int) : Opt α :=
  (bif (seq x1 x21) then (bif (ieq x2 x22) then (bif (ieq x3 x23) then (bif (ieq (rlen x4) (rlen x24)) then (j2 false (ieq (rlen x5) (rlen x25))) else (j2 false false)) else (j2 false false)) else (j2 false false)) else (j2 false false))
def L32aj4 {α : Type} (k : Nat) (K : Y1 α) (x0 : Int) (x1 : LB) (x2 x3 : Int) (x4 x5 : LR) (x6 x7 x8 : LB) (x9 x10 : Int) (x11 : LR) (x12 x13 : Int) (x14 : LR) (x15 : LB) (x16 x17 x18 x19 x20 : Int) (x21 : LB) (x22 x23 : Int) (x24 x25 : LR) (x26 x27 x28 : LB) (x29 x30 : Int) (x31 : LR) (x32 x33 : Int) (x34 : LR) (x35 : LB) (x36 x37 x38 x39 : Int) (t2_0 t2_1 t4_2 : Bool) : Opt α := T32aj4 K x0 x1 x2 x3 x4 x5 x6 x7 x8 x9 x10 x11 x12 x13 x14 x15 x16 x17 x18 x19 x20 x21 x22 x23 x24 x25 x26 x27 x28 x29 x30 x31 x32 x33 x34 x35 x36 x37 x38 x39 t2_0 t2_1 t4_2
def L32aj2 {α : Type} (k : Nat) (K : Y1 α) (x0 : Int) (x1 : LB) (x2 x3 : Int) (x4 x5 : LR) (x6 x7 x8 : LB) (x9 x10 : Int) (x11 : LR) (x12 x13 : Int) (x14 : LR) (x15 : LB) (x16 x17 x18 x19 x20 : Int) (x21 : LB) (x22 x23 : Int) (x24 x25 : LR) (x26 x27 x28 : LB) (x29 x30 : Int) (x31 : LR) (x32 x33 : Int) (x34 : LR) (x35 : LB) (x36 x37 x38 x39 : Int) (t2_0 t2_1 : Bool) : Opt α := T32aj2 (fun t2_0 t2_1 t4_2 => (L32aj4 k K x0 x1 x2 x3 x4 x5 x6 x7 x8 x9 x10 x11 x12 x13 x14 x15 x16 x17 x18 x19 x20 x21 x22 x23 x24 x25 x26 x27 x28 x29 x30 x31 x32 x33 x34 x35 x36 x37 x38 x39 t2_0 t2_1) t4_2) K x0 x1 x2 x3 x4 x5 x6 x7 x8 x9 x10 x11 x12 x13 x14 x15 x16 x17 x18 x19 x20 x21 x22 x23 x24 x25 x26 x27 x28 x29 x30 x31 x32 x33 x34 x35 x36 x37 x38 x39 t2_0 t2_1
def f32a {α : Type} (k : Nat) (x0 : Int) (x1 : LB) (x2 x3 : Int) (x4 x5 : LR) (x6 x7 x8 : LB) (x9 x10 : Int) (x11 : LR) (x12 x13 : Int) (x14 : LR) (x15 : LB) (x16 x17 x18 x19 x20 : Int) (x21 : LB) (x22 x23 : Int) (x24 x25 : LR) (x26 x27 x28 : LB) (x29 x30 : Int) (x31 : LR) (x32 x33 : Int) (x34 : LR) (x35 : LB) (x36 x37 x38 x39 : Int) (K : Y1 α) : Opt α := T32a (fun t2_0 t2_1 => (L32aj2 k K x0 x1 x2 x3 x4 x5 x6 x7 x8 x9 x10 x11 x12 x13 x14 x15 x16 x17 x18 x19 x20 x21 x22 x23 x24 x25 x26 x27 x28 x29 x30 x31 x32 x33 x34 x35 x36 x37 x38 x39) t2_0 t2_1) K x0 x1 x2 x3 x4 x5 x6 x7 x8 x9 x10 x11 x12 x13 x14 x15 x16 x17 x18 x19 x20 x21 x22 x23 x24 x25 x26 x27 x28 x29 x30 x31 x32 x33 x34 x35 x36 x37 x38 x39
def W32a (F : Y19 Res) : Spec := mkSpec [(.c (.p 0 0)), (.c (.p 1 0))] [(.box [(.c (.i i6)), (.c .s), (.c (.i i6)), (.c (.i i6)), (.c (.l 61 vw)), (.c (.l 63 vw)), (.c .s), (.c .s), (.c .s), (.c (.i i6)), (.c (.i i6)), (.c (.l 97 vw)), (.c (.i i6)), (.c (.i i6)), (.c (.l 59 vw)), (.c .s), (.c (.i i6)), (.c (.i i6)), (.c (.i i6)), (.c (.i i6))]), (.box [(.c (.i i6)), (.c .s), (.c (.i i6)), (.c (.i i6)), (.c (.l 61 vw)), (.c (.l 63 vw)), (.c .s), (.c .s), (.c .s), (.c (.i i6)), (.c (.i i6)), (.c (.l 97 (Mark.tk (Tok.ce 1 11) 0))), (.c (.i i6)), (.c (.i i6)), (.c (.l 59 (Mark.tk (Tok.ce 1 14) 0))), (.c .s), (.c (.i i6)), (.c (.i i6)), (.c (.i i6)), (.c (.i i6))])] fun h h' K => F (hI (lget h' 0 .no)) (hS (lget h' 1 .no)) (hI (lget h' 2 .no)) (hI (lget h' 3 .no)) (hR (lget h' 4 .no)) (hR (lget h' 5 .no)) (hS (lget h' 6 .no)) (hS (lget h' 7 .no)) (hS (lget h' 8 .no)) (hI (lget h' 9 .no)) (hI (lget h' 10 .no)) (hR (lget h' 11 .no)) (hI (lget h' 12 .no)) (hI (lget h' 13 .no)) (hR (lget h' 14 .no)) (hS (lget h' 15 .no)) (hI (lget h' 16 .no)) (hI (lget h' 17 .no)) (hI (lget h' 18 .no)) (hI (lget h' 19 .no)) (hI (lget h' 20 .no)) (hS (lget h' 21 .no)) (hI (lget h' 22 .no)) (hI (lget h' 23 .no)) (hR (lget h' 24 .no)) (hR (lget h' 25 .no)) (hS (lget h' 26 .no)) (hS (lget h' 27 .no)) (hS (lget h' 28 .no)) (hI (lget h' 29 .no)) (hI (lget h' 30 .no)) (hR (lget h' 31 .no)) (hI (lget h' 32 .no)) (hI (lget h' 33 .no)) (hR (lget h' 34 .no)) (hS (lget h' 35 .no)) (hI (lget h' 36 .no)) (hI (lget h' 37 .no)) (hI (lget h' 38 .no)) (hI (lget h' 39 .no)) (fun y0 => K (.ok (AV.b y0) [(AObj.box [(ai (hI (lget h' 0 .no))), (AV.s (hS (lget h' 1 .no))), (ai (hI (lget h' 2 .no))), (ai (hI (lget h' 3 .no))), (AV.lst 61 (hR (lget h' 4 .no)) vw), (AV.lst 63 (hR (lget h' 5 .no)) vw), (AV.s (hS (lget h' 6 .no))), (AV.s (hS (lget h' 7 .no))), (AV.s (hS (lget h' 8 .no))), (ai (hI (lget h' 9 .no))), (ai (hI (lget h' 10 .no))), (AV.lst 97 (hR (lget h' 11 .no)) vw), (ai (hI (lget h' 12 .no))), (ai (hI (lget h' 13 .no))), (AV.lst 59 (hR (lget h' 14 .no)) vw), (AV.s (hS (lget h' 15 .no))), (ai (hI (lget h' 16 .no))), (ai (hI (lget h' 17 .no))), (ai (hI (lget h' 18 .no))), (ai (hI (lget h' 19 .no)))]), (AObj.box [(ai (hI (lget h' 20 .no))), (AV.s (hS (lget h' 21 .no))), (ai (hI (lget h' 22 .no))), (ai (hI (lget h' 23 .no))), (AV.lst 61 (hR (lget h' 24 .no)) vw), (AV.lst 63 (hR (lget h' 25 .no)) vw), (AV.s (hS (lget h' 26 .no))), (AV.s (hS (lget h' 27 .no))), (AV.s (hS (lget h' 28 .no))), (ai (hI (lget h' 29 .no))), (ai (hI (lget h' 30 .no))), (AV.lst 97 (hR (lget h' 31 .no)) (Mark.tk (Tok.ce 1 11) 0)), (ai (hI (lget h' 32 .no))), (ai (hI (lget h' 33 .no))), (AV.lst 59 (hR (lget h' 34 .no)) (Mark.tk (Tok.ce 1 14) 0)), (AV.s (hS (lget h' 35 .no))), (ai (hI (lget h' 36 .no))), (ai (hI (lget h' 37 .no))), (ai (hI (lget h' 38 .no))), (ai (hI (lget h' 39 .no)))])]))
def R32aj4 (ρ : FuncId → Fn) (jp : JP) (k : Nat) (K : Y0 Res) (x0 : Int) (x1 : LB) (x2 x3 : Int) (x4 x5 : LR) (x6 x7 x8 : LB) (x9 x10 : Int) (x11 : LR) (x12 x13 : Int) (x14 : LR) (x15 : LB) (x16 x17 x18 x19 x20 : Int) (x21 : LB) (x22 x23 : Int) (x24 x25 : LR) (x26 x27 x28 : LB) (x29 x30 : Int) (x31 : LR) (x32 x33 : Int) (x34 : LR) (x35 : LB) (x36 x37 x38 x39 : Int) (t2_0 t2_1 t4_2 : Bool) : OR :=
  atJoin Tryz.prog Gl ρ (loopN k) jp Tryz.f32 2 K [1, 1, 1, 1] [] 115 ([(AV.ptr 0 0), (AV.ptr 1 0), uk, uk, (AV.b t2_0), uk, uk, (AV.b t2_1), uk, uk, (AV.b t4_2)] ++ (us 183 [])) [(Prod.mk 0 (AObj.box [(ai x0), (AV.s x1), (ai x2), (ai x3), (AV.lst 61 x4 vw), (AV.lst 63 x5 vw), (AV.s x6), (AV.s x7), (AV.s x8), (ai x9), (ai x10), (AV.lst 97 x11 vw), (ai x12), (ai x13), (AV.lst 59 x14 vw), (AV.s x15), (ai x16), (ai x17), (ai x18), (ai x19)])), (Prod.mk 1 (AObj.box [(ai x20), (AV.s x21), (ai x22), (ai x23), (AV.lst 61 x24 vw), (AV.lst 63 x25 vw), (AV.s x26), (AV.s x27), (AV.s x28), (ai x29), (ai x30), (AV.lst 97 x31 (Mark.tk (Tok.ce 1 11) 0)), (ai x32), (ai x33), (AV.lst 59 x34 (Mark.tk (Tok.ce 1 14) 0)), (AV.s x35), (ai x36), (ai x37), (ai x38), (ai x39)])), (Prod.mk 11 (AObj.box [(AV.s x1), (ai x2), (ai x3), (AV.lst 61 x4 vw), (AV.lst 63 x5 vw)])), (Prod.mk 12 (AObj.box [(AV.s x21), (ai x22), (ai x23), (AV.lst 61 x24 vw), (AV.lst 63 x25 vw)])), (Prod.mk 61 (AObj.box [(ai x10), (AV.lst 97 x11 vw), (ai x12)])), (Prod.mk 62 (AObj.box [(ai x30), (AV.lst 97 x31 vw), (ai x32)]))] []
def RR32aj4 (ρ : FuncId → Fn) (jp : JP) (k : Nat) (K : Y0 Res) (x0 : Int) (x1 : LB) (x2 x3 : Int) (x4 x5 : LR) (x6 x7 x8 : LB) (x9 x10 : Int) (x11 : LR) (x12 x13 : Int) (x14 : LR) (x15 : LB) (x16 x17 x18 x19 x20 : Int) (x21 : LB) (x22 x23 : Int) (x24 x25 : LR) (x26 x27 x28 : LB) (x29 x30 : Int) (x31 : LR) (x32 x33 : Int) (x34 : LR) (x35 : LB) (x36 x37 x38 x39 : Int) (t2_0 t2_1 t4_2 : Bool) : OR :=
  atRest Tryz.prog Gl ρ (loopN k) jp Tryz.f32 2 K [1, 1, 1, 1] [] 115 ([(AV.ptr 0 0), (AV.ptr 1 0), uk, uk, (AV.b t2_0), uk, uk, (AV.b t2_1), uk, uk, (AV.b t4_2)] ++ (us 183 [])) [(Prod.mk 0 (AObj.box [(ai x0), (AV.s x1), (ai x2), (ai x3), (AV.lst 61 x4 vw), (AV.lst 63 x5 vw), (AV.s x6), (AV.s x7), (AV.s x8), (ai x9), (ai x10), (AV.lst 97 x11 vw), (ai x12), (ai x13), (AV.lst 59 x14 vw), (AV.s x15), (ai x16), (ai x17), (ai x18), (ai x19)])), (Prod.mk 1 (AObj.box [(ai x20), (AV.s x21), (ai x22), (ai x23), (AV.lst 61 x24 vw), (AV.lst 63 x25 vw), (AV.s x26), (AV.s x27), (AV.s x28), (ai x29), (ai x30), (AV.lst 97 x31 (Mark.tk (Tok.ce 1 11) 0)), (ai x32), (ai x33), (AV.lst 59 x34 (Mark.tk (Tok.ce 1 14) 0)), (AV.s x35), (ai x36), (ai x37), (ai x38), (ai x39)])), (Prod.mk 11 (AObj.box [(AV.s x1), (ai x2), (ai x3), (AV.lst 61 x4 vw), (AV.lst 63 x5 vw)])), (Prod.mk 12 (AObj.box [(AV.s x21), (ai x22), (ai x23), (AV.lst 61 x24 vw), (AV.lst 63 x25 vw)])), (Prod.mk 61 (AObj.box [(ai x10), (AV.lst 97 x11 vw), (ai x12)])), (Prod.mk 62 (AObj.box [(ai x30), (AV.lst 97 x31 vw), (ai x32)]))] []
def R32aj2 (ρ : FuncId → Fn) (jp : JP) (k : Nat) (K : Y0 Res) (x0 : Int) (x1 : LB) (x2 x3 : Int) (x4 x5 : LR) (x6 x7 x8 : LB) (x9 x10 : Int) (x11 : LR) (x12 x13 : Int) (x14 : LR) (x15 : LB) (x16 x17 x18 x19 x20 : Int) (x21 : LB) (x22 x23 : Int) (x24 x25 : LR) (x26 x27 x28 : LB) (x29 x30 : Int) (x31 : LR) (x32 x33 : Int) (x34 : LR) (x35 : LB) (x36 x37 x38 x39 : Int) (t2_0 t2_1 : Bool) : OR :=
  atJoin Tryz.prog Gl ρ (loopN k) jp Tryz.f32 2 K [1, 1] [] 53 ([(AV.ptr 0 0), (AV.ptr 1 0), uk, uk, (AV.b t2_0), uk, uk, (AV.b t2_1)] ++ (us 186 [])) [(Prod.mk 0 (AObj.box [(ai x0), (AV.s x1), (ai x2), (ai x3), (AV.lst 61 x4 vw), (AV.lst 63 x5 vw), (AV.s x6), (AV.s x7), (AV.s x8), (ai x9), (ai x10), (AV.lst 97 x11 vw), (ai x12), (ai x13), (AV.lst 59 x14 vw), (AV.s x15), (ai x16), (ai x17), (ai x18), (ai x19)])), (Prod.mk 1 (AObj.box [(ai x20), (AV.s x21), (ai x22), (ai x23), (AV.lst 61 x24 vw), (AV.lst 63 x25 vw), (AV.s x26), (AV.s x27), (AV.s x28), (ai x29), (ai x30), (AV.lst 97 x31 (Mark.tk (Tok.ce 1 11) 0)), (ai x32), (ai x33), (AV.lst 59 x34 (Mark.tk (Tok.ce 1 14) 0)), (AV.s x35), (ai x36), (ai x37), (ai x38), (ai x39)])), (Prod.mk 11 (AObj.box [(AV.s x1), (ai x2), (ai x3), (AV.lst 61 x4 vw), (AV.lst 63 x5 vw)])), (Prod.mk 12 (AObj.box [(AV.s x21), (ai x22), (ai x23), (AV.lst 61 x24 vw), (AV.lst 63 x25 vw)]))] []
def RR32aj2 (ρ : FuncId → Fn) (jp : JP) (k : Nat) (K : Y0 Res) (x0 : Int) (x1 : LB) (x2 x3 : Int) (x4 x5 : LR) (x6 x7 x8 : LB) (x9 x10 : Int) (x11 : LR) (x12 x13 : Int) (x14 : LR) (x15 : LB) (x16 x17 x18 x19 x20 : Int) (x21 : LB) (x22 x23 : Int) (x24 x25 : LR) (x26 x27 x28 : LB) (x29 x30 : Int) (x31 : LR) (x32 x33 : Int) (x34 : LR) (x35 : LB) (x36 x37 x38 x39 : Int) (t2_0 t2_1 : Bool) : OR :=
  atRest Tryz.prog Gl ρ (loopN k) jp Tryz.f32 2 K [1, 1] [] 53 ([(AV.ptr 0 0), (AV.ptr 1 0), uk, uk, (AV.b t2_0), uk, uk, (AV.b t2_1)] ++ (us 186 [])) [(Prod.mk 0 (AObj.box [(ai x0), (AV.s x1), (ai x2), (ai x3), (AV.lst 61 x4 vw), (AV.lst 63 x5 vw), (AV.s x6), (AV.s x7), (AV.s x8), (ai x9), (ai x10), (AV.lst 97 x11 vw), (ai x12), (ai x13), (AV.lst 59 x14 vw), (AV.s x15), (ai x16), (ai x17), (ai x18), (ai x19)])), (Prod.mk 1 (AObj.box [(ai x20), (AV.s x21), (ai x22), (ai x23), (AV.lst 61 x24 vw), (AV.lst 63 x25 vw), (AV.s x26), (AV.s x27), (AV.s x28), (ai x29), (ai x30), (AV.lst 97 x31 (Mark.tk (Tok.ce 1 11) 0)), (ai x32), (ai x33), (AV.lst 59 x34 (Mark.tk (Tok.ce 1 14) 0)), (AV.s x35), (ai x36), (ai x37), (ai x38), (ai x39)])), (Prod.mk 11 (AObj.box [(AV.s x1), (ai x2), (ai x3), (AV.lst 61 x4 vw), (AV.lst 63 x5 vw)])), (Prod.mk 12 (AObj.box [(AV.s x21), (ai x22), (ai x23), (AV.lst 61 x24 vw), (AV.lst 63 x25 vw)]))] []
theorem step32aj4 (jp : JP) (k : Nat) (K : Y0 Res) (x0 : Int) (x1 : LB) (x2 x3 : Int) (x4 x5 : LR) (x6 x7 x8 : LB) (x9 x10 : Int) (x11 : LR) (x12 x13 : Int) (x14 : LR) (x15 : LB) (x16 x17 x18 x19 x20 : Int) (x21 : LB) (x22 x23 : Int) (x24 x25 : LR) (x26 x27 x28 : LB) (x29 x30 : Int) (x31 : LR) (x32 x33 : Int) (x34 : LR) (x35 : LB) (x36 x37 x38 x39 : Int) (t2_0 t2_1 t4_2 : Bool) : RR32aj4 (rhoL []) jp k K x0 x1 x2 x3 x4 x5 x6 x7 x8 x9 x10 x11 x12 x13 x14 x15 x16 x17 x18 x19 x20 x21 x22 x23 x24 x25 x26 x27 x28 x29 x30 x31 x32 x33 x34 x35 x36 x37 x38 x39 t2_0 t2_1 t4_2 = T32aj4 (fun y0 => K (.ok (AV.b y0) [(AObj.box [(ai x0), (AV.s x1), (ai x2), (ai x3), (AV.lst 61 x4 vw), (AV.lst 63 x5 vw), (AV.s x6), (AV.s x7), (AV.s x8), (ai x9), (ai x10), (AV.lst 97 x11 vw), (ai x12), (ai x13), (AV.lst 59 x14 vw), (AV.s x15), (ai x16), (ai x17), (ai x18), (ai x19)]), (AObj.box [(ai x20), (AV.s x21), (ai x22), (ai x23), (AV.lst 61 x24 vw), (AV.lst 63 x25 vw), (AV.s x26), (AV.s x27), (AV.s x28), (ai x29), (ai x30), (AV.lst 97 x31 (Mark.tk (Tok.ce 1 11) 0)), (ai x32), (ai x33), (AV.lst 59 x34 (Mark.tk (Tok.ce 1 14) 0)), (AV.s x35), (ai x36), (ai x37), (ai x38), (ai x39)])])) x0 x1 x2 x3 x4 x5 x6 x7 x8 x9 x10 x11 x12 x13 x14 x15 x16 x17 x18 x19 x20 x21 x22 x23 x24 x25 x26 x27 x28 x29 x30 x31 x32 x33 x34 x35 x36 x37 x38 x39 t2_0 t2_1 t4_2 := by kernel_rfl
theorem step32aj2 (jp : JP) (k : Nat) (K : Y0 Res) (x0 : Int) (x1 : LB) (x2 x3 : Int) (x4 x5 : LR) (x6 x7 x8 : LB) (x9 x10 : Int) (x11 : LR) (x12 x13 : Int) (x14 : LR) (x15 : LB) (x16 x17 x18 x19 x20 : Int) (x21 : LB) (x22 x23 : Int) (x24 x25 : LR) (x26 x27 x28 : LB) (x29 x30 : Int) (x31 : LR) (x32 x33 : Int) (x34 : LR) (x35 : LB) (x36 x37 x38 x39 : Int) (t2_0 t2_1 : Bool) : RR32aj2 (rhoL []) jp k K x0 x1 x2 x3 x4 x5 x6 x7 x8 x9 x10 x11 x12 x13 x14 x15 x16 x17 x18 x19 x20 x21 x22 x23 x24 x25 x26 x27 x28 x29 x30 x31 x32 x33 x34 x35 x36 x37 x38 x39 t2_0 t2_1 = T32aj2 (fun t2_0 t2_1 t4_2 => R32aj4 (rhoL []) jp k K x0 x1 x2 x3 x4 x5 x6 x7 x8 x9 x10 x11 x12 x13 x14 x15 x16 x17 x18 x19 x20 x21 x22 x23 x24 x25 x26 x27 x28 x29 x30 x31 x32 x33 x34 x35 x36 x37 x38 x39 t2_0 t2_1 t4_2) (fun y0 => K (.ok (AV.b y0) [(AObj.box [(ai x0), (AV.s x1), (ai x2), (ai x3), (AV.lst 61 x4 vw), (AV.lst 63 x5 vw), (AV.s x6), (AV.s x7), (AV.s x8), (ai x9), (ai x10), (AV.lst 97 x11 vw), (ai x12), (ai x13), (AV.lst 59 x14 vw), (AV.s x15), (ai x16), (ai x17), (ai x18), (ai x19)]), (AObj.box [(ai x20), (AV.s x21), (ai x22), (ai x23), (AV.lst 61 x24 vw), (AV.lst 63 x25 vw), (AV.s x26), (AV.s x27), (AV.s x28), (ai x29), (ai x30), (AV.lst 97 x31 (Mark.tk (Tok.ce 1 11) 0)), (ai x32), (ai x33), (AV.lst 59 x34 (Mark.tk (Tok.ce 1 14) 0)), (AV.s x35), (ai x36), (ai x37), (ai x38), (ai x39)])])) x0 x1 x2 x3 x4 x5 x6 x7 x8 x9 x10 x11 x12 x13 x14 x15 x16 x17 x18 x19 x20 x21 x22 x23 x24 x25 x26 x27 x28 x29 x30 x31 x32 x33 x34 x35 x36 x37 x38 x39 t2_0 t2_1 := by kernel_rfl
theorem loop32aj4 (k : Nat) (K : Y0 Res) (x0 : Int) (x1 : LB) (x2 x3 : Int) (x4 x5 : LR) (x6 x7 x8 : LB) (x9 x10 : Int) (x11 : LR) (x12 x13 : Int) (x14 : LR) (x15 : LB) (x16 x17 x18 x19 x20 : Int) (x21 : LB) (x22 x23 : Int) (x24 x25 : LR) (x26 x27 x28 : LB) (x29 x30 : Int) (x31 : LR) (x32 x33 : Int) (x34 : LR) (x35 : LB) (x36 x37 x38 x39 : Int) (t2_0 t2_1 t4_2 : Bool) : R32aj4 (rhoL []) jpId k K x0 x1 x2 x3 x4 x5 x6 x7 x8 x9 x10 x11 x12 x13 x14 x15 x16 x17 x18 x19 x20 x21 x22 x23 x24 x25 x26 x27 x28 x29 x30 x31 x32 x33 x34 x35 x36 x37 x38 x39 t2_0 t2_1 t4_2 = L32aj4 k (fun y0 => K (.ok (AV.b y0) [(AObj.box [(ai x0), (AV.s x1), (ai x2), (ai x3), (AV.lst 61 x4 vw), (AV.lst 63 x5 vw), (AV.s x6), (AV.s x7), (AV.s x8), (ai x9), (ai x10), (AV.lst 97 x11 vw), (ai x12), (ai x13), (AV.lst 59 x14 vw), (AV.s x15), (ai x16), (ai x17), (ai x18), (ai x19)]), (AObj.box [(ai x20), (AV.s x21), (ai x22), (ai x23), (AV.lst 61 x24 vw), (AV.lst 63 x25 vw), (AV.s x26), (AV.s x27), (AV.s x28), (ai x29), (ai x30), (AV.lst 97 x31 (Mark.tk (Tok.ce 1 11) 0)), (ai x32), (ai x33), (AV.lst 59 x34 (Mark.tk (Tok.ce 1 14) 0)), (AV.s x35), (ai x36), (ai x37), (ai x38), (ai x39)])])) x0 x1 x2 x3 x4 x5 x6 x7 x8 x9 x10 x11 x12 x13 x14 x15 x16 x17 x18 x19 x20 x21 x22 x23 x24 x25 x26 x27 x28 x29 x30 x31 x32 x33 x34 x35 x36 x37 x38 x39 t2_0 t2_1 t4_2 :=
  (atJoin_id (P := Tryz.prog)).trans ((step32aj4 jpId k K x0 x1 x2 x3 x4 x5 x6 x7 x8 x9 x10 x11 x12 x13 x14 x15 x16 x17 x18 x19 x20 x21 x22 x23 x24 x25 x26 x27 x28 x29 x30 x31 x32 x33 x34 x35 x36 x37 x38 x39 t2_0 t2_1 t4_2).trans (by first | (unfold L32aj4; with_reducible rfl) | (unfold L32aj4 T32aj4; with_reducible rfl) | kernel_rfl))
theorem loop32aj2 (k : Nat) (K : Y0 Res) (x0 : Int) (x1 : LB) (x2 x3 : Int) (x4 x5 : LR) (x6 x7 x8 : LB) (x9 x10 : Int) (x11 : LR) (x12 x13 : Int) (x14 : LR) (x15 : LB) (x16 x17 x18 x19 x20 : Int) (x21 : LB) (x22 x23 : Int) (x24 x25 : LR) (x26 x27 x28 : LB) (x29 x30 : Int) (x31 : LR) (x32 x33 : Int) (x34 : LR) (x35 : LB) (x36 x37 x38 x39 : Int) (t2_0 t2_1 : Bool) : R32aj2 (rhoL []) jpId k K x0 x1 x2 x3 x4 x5 x6 x7 x8 x9 x10 x11 x12 x13 x14 x15 x16 x17 x18 x19 x20 x21 x22 x23 x24 x25 x26 x27 x28 x29 x30 x31 x32 x33 x34 x35 x36 x37 x38 x39 t2_0 t2_1 = L32aj2 k (fun y0 => K (.ok (AV.b y0) [(AObj.box [(ai x0), (AV.s x1), (ai x2), (ai x3), (AV.lst 61 x4 vw), (AV.lst 63 x5 vw), (AV.s x6), (AV.s x7), (AV.s x8), (ai x9), (ai x10), (AV.lst 97 x11 vw), (ai x12), (ai x13), (AV.lst 59 x14 vw), (AV.s x15), (ai x16), (ai x17), (ai x18), (ai x19)]), (AObj.box [(ai x20), (AV.s x21), (ai x22), (ai x23), (AV.lst 61 x24 vw), (AV.lst 63 x25 vw), (AV.s x26), (AV.s x27), (AV.s x28), (ai x29), (ai x30), (AV.lst 97 x31 (Mark.tk (Tok.ce 1 11) 0)), (ai x32), (ai x33), (AV.lst 59 x34 (Mark.tk (Tok.ce 1 14) 0)), (AV.s x35), (ai x36), (ai x37), (ai x38), (ai x39)])])) x0 x1 x2 x3 x4 x5 x6 x7 x8 x9 x10 x11 x12 x13 x14 x15 x16 x17 x18 x19 x20 x21 x22 x23 x24 x25 x26 x27 x28 x29 x30 x31 x32 x33 x34 x35 x36 x37 x38 x39 t2_0 t2_1 :=
  (atJoin_id (P := Tryz.prog)).trans ((step32aj2 jpId k K x0 x1 x2 x3 x4 x5 x6 x7 x8 x9 x10 x11 x12 x13 x14 x15 x16 x17 x18 x19 x20 x21 x22 x23 x24 x25 x26 x27 x28 x29 x30 x31 x32 x33 x34 x35 x36 x37 x38 x39 t2_0 t2_1).trans (by simp only [loop32aj4 k K]; first | (unfold L32aj2; with_reducible rfl) | (unfold L32aj2 T32aj2; with_reducible rfl) | kernel_rfl))
theorem run32a (jp : JP) (k : Nat) (K : Y0 Res) (x0 : Int) (x1 : LB) (x2 x3 : Int) (x4 x5 : LR) (x6 x7 x8 : LB) (x9 x10 : Int) (x11 : LR) (x12 x13 : Int) (x14 : LR) (x15 : LB) (x16 x17 x18 x19 x20 : Int) (x21 : LB) (x22 x23 : Int) (x24 x25 : LR) (x26 x27 x28 : LB) (x29 x30 : Int) (x31 : LR) (x32 x33 : Int) (x34 : LR) (x35 : LB) (x36 x37 x38 x39 : Int) : runF Tryz.prog Gl (rhoL []) (loopN k) jp Tryz.f32 [(AV.ptr 0 0), (AV.ptr 1 0)] [(AObj.box [(ai x0), (AV.s x1), (ai x2), (ai x3), (AV.lst 61 x4 vw), (AV.lst 63 x5 vw), (AV.s x6), (AV.s x7), (AV.s x8), (ai x9), (ai x10), (AV.lst 97 x11 vw), (ai x12), (ai x13), (AV.lst 59 x14 vw), (AV.s x15), (ai x16), (ai x17), (ai x18), (ai x19)]), (AObj.box [(ai x20), (AV.s x21), (ai x22), (ai x23), (AV.lst 61 x24 vw), (AV.lst 63 x25 vw), (AV.s x26), (AV.s x27), (AV.s x28), (ai x29), (ai x30), (AV.lst 97 x31 (Mark.tk (Tok.ce 1 11) 0)), (ai x32), (ai x33), (AV.lst 59 x34 (Mark.tk (Tok.ce 1 14) 0)), (AV.s x35), (ai x36), (ai x37), (ai x38), (ai x39)])] K = T32a (fun t2_0 t2_1 => R32aj2 (rhoL []) jp k K x0 x1 x2 x3 x4 x5 x6 x7 x8 x9 x10 x11 x12 x13 x14 x15 x16 x17 x18 x19 x20 x21 x22 x23 x24 x25 x26 x27 x28 x29 x30 x31 x32 x33 x34 x35 x36 x37 x38 x39 t2_0 t2_1) (fun y0 => K (.ok (AV.b y0) [(AObj.box [(ai x0), (AV.s x1), (ai x2), (ai x3), (AV.lst 61 x4 vw), (AV.lst 63 x5 vw), (AV.s x6), (AV.s x7), (AV.s x8), (ai x9), (ai x10), (AV.lst 97 x11 vw), (ai x12), (ai x13), (AV.lst 59 x14 vw), (AV.s x15), (ai x16), (ai x17), (ai x18), (ai x19)]), (AObj.box [(ai x20), (AV.s x21), (ai x22), (ai x23), (AV.lst 61 x24 vw), (AV.lst 63 x25 vw), (AV.s x26), (AV.s x27), (AV.s x28), (ai x29), (ai x30), (AV.lst 97 x31 (Mark.tk (Tok.ce 1 11) 0)), (ai x32), (ai x33), (AV.lst 59 x34 (Mark.tk (Tok.ce 1 14) 0)), (AV.s x35), (ai x36), (ai x37), (ai x38), (ai x39)])])) x0 x1 x2 x3 x4 x5 x6 x7 x8 x9 x10 x11 x12 x13 x14 x15 x16 x17 x18 x19 x20 x21 x22 x23 x24 x25 x26 x27 x28 x29 x30 x31 x32 x33 x34 x35 x36 x37 x38 x39 := by kernel_rfl
end
end Go.AI
