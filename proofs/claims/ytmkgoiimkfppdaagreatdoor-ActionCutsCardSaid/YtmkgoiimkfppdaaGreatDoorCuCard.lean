/- ActionCuts of boathouse/action: for all a, cut, which the law's function returns true and leaves its arguments alone; no condition. The machine side: an abstract interpreter of the model's code, proved sound once, and the functions that it comes to, printed and checked; the plain side: the form check, the writer and the parser each exact for whatever they are handed, that what is written is read again and that no text that is taken goes on. -/
import Derived.Test.YtmkgoiimkfppdaaGreatDoorCards
import Derived.Test.YtmkgoiimkfppdaaGreatDoorTie
import Derived.WideKeyArgs
import Derived.SizedLaws
import Derived.ShutString
import Derived.WalkKit
import Derived.ProofKit
import Derived.OpenShut
import Derived.LaidMore
import Derived.Lay
import Derived.LaidSub
import Derived.Deep.DeepHandedRow
import Derived.Lib.LaidTab
import Derived.Test.YtmkgoiimkfppdaaGreatDoorCuF
/-
  PLAIN LAWS: what the parser answers is sized well; Get, whole.
-/
set_option maxRecDepth 100000
set_option linter.unusedVariables false
set_option linter.unusedSimpArgs false
namespace Go.AI
open Go.Proofs

theorem keyP_len {isObj : Bool} {ks : List LB} {S : LB} {q : List LB × LB} (h : keyP isObj ks S = some q) : isObj = true → q.1.length = ks.length + 1 := by
  intro e; subst e
  unfold keyP at h
  rw [cond_true] at h
  cases ht : textP S with
  | none => rw [ht] at h; cases h
  | some t =>
    rw [ht, Option.bind_some] at h
    cases hc : ks.contains t.1
    · rw [hc, cond_false] at h
      cases h2 : takeP 58 (whiteP t.2) with
      | none => rw [h2] at h; cases h
      | some m => rw [h2] at h; cases h; simp
    · rw [hc] at h; cases h
theorem loopP_ok {N : Nat} {v : LB → Option (J × LB)} {isObj : Bool} (hv : ∀ S r, S.length ≤ N → v S = some r → okJ N r.1 ∧ r.2 <:+ S ∧ r.2.length < S.length) : ∀ {n : Nat} {first : Bool} {ks : List LB} {js : List J} {S : LB} {r : (List LB × List J) × LB}, loopP v isObj n first ks js S = some r → js.length + S.length ≤ N → (∀ j ∈ js, okJ N j) → (isObj = true → ks.length = js.length) → r.1.2.length ≤ N ∧ (∀ j ∈ r.1.2, okJ N j) ∧ (isObj = true → r.1.1.length = r.1.2.length)
  | 0, _, _, _, _, _, h, _, _, _ => by cases h
  | n + 1, first, ks, js, S, r, h, hN, hj, hk => by
    unfold loopP at h
    cases he : ieq (headP S) (bif isObj then 125 else 93)
    · rw [he, cond_false] at h
      cases h1 : sepP first S with
      | none => rw [h1] at h; cases h
      | some S1 =>
        rw [h1, Option.bind_some] at h
        cases h2 : keyP isObj ks S1 with
        | none => rw [h2] at h; cases h
        | some q =>
          rw [h2, Option.bind_some] at h
          cases h3 : v q.2 with
          | none => rw [h3] at h; cases h
          | some p =>
            rw [h3, Option.bind_some] at h
            have s1 := (sepP_some h1).length_le
            have s2 := (keyP_some h2).length_le
            obtain ⟨o1, o2, o3⟩ := hv _ _ (by omega) h3
            have s4 := (List.dropWhile_suffix (l := p.2) isW).length_le
            have s5 : (whiteP p.2).length ≤ p.2.length := s4
            refine loopP_ok hv h (by simp; omega) (fun j hh => ?_) (fun e => ?_)
            · rcases List.mem_append.1 hh with hh | hh
              · exact hj j hh
              · simp at hh; rw [hh]; exact o1
            · have := keyP_len h2 e
              have := hk e
              simp; omega
    · rw [he] at h; cases h; exact ⟨Nat.le_trans (Nat.le_add_right _ _) hN, hj, hk⟩
theorem scalarP_ok {N : Nat} {S : LB} {inner : Bool → Option (J × LB)} (hi : ∀ b r, inner b = some r → okJ N r.1) {r : J × LB} (h : scalarP S inner = some r) : okJ N r.1 := by
  have mapw : ∀ {w : LB} {j : J}, okJ N j → (wordP w S).map (fun m => (j, m)) = some r → okJ N r.1 := fun e h => by
    cases hw : wordP _ S with
    | none => rw [hw] at h; cases h
    | some m => rw [hw] at h; cases h; exact e
  unfold scalarP at h
  cases h1 : ieq (headP S) 110
  · cases h2 : ieq (headP S) 116
    · cases h3 : ieq (headP S) 102
      · cases h4 : ieq (headP S) 34
        · cases h5 : ieq (headP S) 91
          · cases h6 : ieq (headP S) 123
            · rw [h1, h2, h3, h4, h5, h6] at h
              simp only [cond_false] at h
              cases hn : numberP S with
              | none => rw [hn] at h; cases h
              | some t => rw [hn] at h; cases h; unfold okJ; exact (numberP_some hn).1
            · rw [h1, h2, h3, h4, h5, h6] at h
              exact hi _ _ h
          · rw [h1, h2, h3, h4, h5] at h
            exact hi _ _ h
        · rw [h1, h2, h3, h4] at h
          simp only [cond_false, cond_true] at h
          cases hn : textP S with
          | none => rw [hn] at h; cases h
          | some t => rw [hn] at h; cases h; exact trivial
      · rw [h1, h2, h3] at h; exact mapw (j := .bool false) trivial h
    · rw [h1, h2] at h; exact mapw (j := .bool true) trivial h
  · rw [h1] at h; exact mapw (j := .null) trivial h
theorem innerP_ok {N : Nat} {v : LB → Option (J × LB)} (hv : ∀ S r, S.length ≤ N → v S = some r → okJ N r.1 ∧ r.2 <:+ S ∧ r.2.length < S.length) {b : Bool} {S : LB} (hS : S.length ≤ N) {r : J × LB} (h : innerP' v b S = some r) : okJ N r.1 := by
  unfold innerP' at h
  cases hl : loopP v b (S.length + 1) true [] [] (whiteP (S.drop 1)) with
  | none => rw [hl] at h; cases h
  | some q =>
    rw [hl] at h; cases h
    have h2 : (whiteP (S.drop 1)).length ≤ (S.drop 1).length := (List.dropWhile_suffix (l := S.drop 1) isW).length_le
    have h3 : (S.drop 1).length ≤ S.length := by simp
    obtain ⟨a1, a2, a3⟩ := loopP_ok hv hl (show ([] : List J).length + (whiteP (S.drop 1)).length ≤ N by rw [List.length_nil]; omega) (fun j hj => by simp at hj) (fun _ => rfl)
    cases b
    · show okJ N (.list q.1.2)
      unfold okJ; exact ⟨a1, okL_of a2⟩
    · show okJ N (.obj q.1.1 q.1.2)
      unfold okJ; exact ⟨a1, a3 rfl, okL_of a2⟩
theorem valueP_ok {N : Nat} : ∀ (d : Nat) (S : LB) (r : J × LB), S.length ≤ N → valueP d S = some r → okJ N r.1
  | 0, S, r, hS, h => scalarP_ok (fun _ _ h => by cases h) h
  | d + 1, S, r, hS, h => scalarP_ok (fun b r h => innerP_ok (fun S r hS h => ⟨valueP_ok d S r hS h, valueP_some d S r h⟩) hS h) h
theorem parseP_ok {x : LB} {j : J} (h : parseP x = some j) : x.length ≤ 65536 ∧ okJ 65536 j := by
  unfold parseP at h
  by_cases hl : x.length ≤ 65536
  · rw [Nat.ble_eq_true_of_le hl, cond_true] at h
    cases hv : valueP 16 (whiteP x) with
    | none => rw [hv] at h; cases h
    | some r =>
      rw [hv, Option.bind_some] at h
      cases hc : ieq (at_ x (whiteP r.2)) (slen x)
      · rw [hc] at h; cases h
      · rw [hc] at h; cases h
        have : (whiteP x).length ≤ x.length := (List.dropWhile_suffix (l := x) isW).length_le
        exact ⟨hl, valueP_ok 16 _ _ (by omega) hv⟩
  · have e2 : Nat.ble x.length 65536 = false := by
      cases hh : Nat.ble x.length 65536
      · rfl
      · exact absurd (Nat.le_of_ble_eq_true hh) hl
    rw [e2] at h; cases h

/-! ### what is read is formed well -/
theorem foldO_all {g : J → Bool → List AV × Bool} {P : List AV → Prop} {N : Nat} (hg : ∀ j b, okJ N j → P (g j b).1) : ∀ (l : List J) (b : Bool), (∀ j ∈ l, okJ N j) → ∀ r ∈ (foldO g l b).1, P r
  | [], b, _, r, hr => by simp [foldO] at hr
  | j :: l, b, h, r, hr => by
    unfold foldO at hr
    rcases List.mem_cons.1 hr with rfl | hr
    · exact hg j b (h j (by simp))
    · exact foldO_all hg l _ (fun c hc => h c (by simp [hc])) r hr
theorem rowIn_wf {N : Nat} (ky : LB) (c : J) (b : Bool) (h : okJ N c) : wfRow (rowIn ky c b).1 := by
  have z : ∀ (p : List AV × Bool), toR (lget p.1 4 .unk) = [] → toR (lget p.1 5 .unk) = [] → intOK (toI (lget p.1 19 .unk)) = true → wfRow p.1 := fun p h1 h2 h3 => by
    unfold wfRow wfA
    rw [h1, h2, h3]
    exact ⟨fun v hv => by simp at hv, fun v hv => by simp at hv, rfl⟩
  unfold rowIn
  cases seq ky [97, 100, 100]
  · simp only [cond_false]
    cases seq ky [114, 101, 109, 111, 118, 101]
    · simp only [cond_false]
      cases seq ky [109, 97, 114, 107]
      · simp only [cond_false]
        cases seq ky [115, 99, 104, 101, 109, 97]
        · simp only [cond_false]
          cases seq ky [115, 112, 101, 99]
          · simp only [cond_false]
            cases seq ky [116, 120, 110]
            · simp only [cond_false]
              cases seq ky [105, 110, 102, 111]
              · exact z _ rfl rfl rfl
              · exact z _ rfl rfl (rdNum_ok h _ _)
            · exact z _ rfl rfl rfl
          · exact z _ rfl rfl rfl
        · exact z _ rfl rfl rfl
      · exact z _ rfl rfl rfl
    · exact z _ rfl rfl rfl
  · refine ⟨?_, ?_, rfl⟩
    · exact foldO_all (g := valOut) (P := fun v => intOK (toI (lget v 1 .unk)) = true) (fun j b hj => rdVal_ok hj b) _ _ (rdList_ok h _ _).2
    · refine foldO_all (g := statOut) (N := N) (P := fun v => intOK (toI (lget v 0 .unk)) = true ∧ intOK (toI (lget v 3 .unk)) = true ∧ intOK (toI (lget v 7 .unk)) = true) (fun j b hj => ⟨rdNum_ok hj _ _, rdVal_ok (rdAt_ok hj _ _) _, rdVal_ok (rdAt_ok hj _ _) _⟩) _ _ (rdList_ok h _ _).2
theorem rowOut_wf {N : Nat} (j : J) (b : Bool) (h : okJ N j) : wfRow (rowOut j b).1 := by
  unfold rowOut
  have ho := (ok_sub h).2.2
  rcases hk : subK j with _ | ⟨ky, _ | ⟨k2, ks⟩⟩
  · exact rowIn_wf (N := N) [] .null b trivial
  · rcases hl : subL j with _ | ⟨c, l⟩
    · exact rowIn_wf (N := N) [] .null b trivial
    · exact rowIn_wf ky c b (ho c (by rw [hl]; simp))
  · exact rowIn_wf (N := N) [] .null b trivial

/-! ### Get -/
def readP (s : LB) : Option (LR × Bool) := match parseP s with
  | some (.list l) => some (foldO rowOut l false)
  | _ => none
noncomputable def getOK (s : LB) : Bool := match readP s with
  | some p => bif p.2 then false else bif putOK p.1 then seq (putT p.1) s else false
  | none => false
noncomputable def getR (s : LB) : LR := bif getOK s then (match readP s with | some p => p.1 | none => []) else []
noncomputable def getN (s : LB) : Int := bif getOK s then 0 else 1900
theorem rowIn_mk (ky : LB) (d : J) (b : Bool) : mkRow (toI (lget (rowIn ky d b).1 0 .unk)) (toS (lget (rowIn ky d b).1 1 .unk)) (toI (lget (rowIn ky d b).1 2 .unk)) (toI (lget (rowIn ky d b).1 3 .unk)) (toR (lget (rowIn ky d b).1 4 .unk)) (toR (lget (rowIn ky d b).1 5 .unk)) (toS (lget (rowIn ky d b).1 6 .unk)) (toS (lget (rowIn ky d b).1 7 .unk)) (toS (lget (rowIn ky d b).1 8 .unk)) (toI (lget (rowIn ky d b).1 9 .unk)) (toI (lget (rowIn ky d b).1 10 .unk)) (toR (lget (rowIn ky d b).1 11 .unk)) (toI (lget (rowIn ky d b).1 12 .unk)) (toI (lget (rowIn ky d b).1 13 .unk)) (toR (lget (rowIn ky d b).1 14 .unk)) (toS (lget (rowIn ky d b).1 15 .unk)) (toI (lget (rowIn ky d b).1 16 .unk)) (toI (lget (rowIn ky d b).1 17 .unk)) (toI (lget (rowIn ky d b).1 18 .unk)) (toI (lget (rowIn ky d b).1 19 .unk)) = (rowIn ky d b).1 := by
  unfold rowIn
  cases seq ky [97, 100, 100]
  · cases seq ky [114, 101, 109, 111, 118, 101]
    · cases seq ky [109, 97, 114, 107]
      · cases seq ky [115, 99, 104, 101, 109, 97]
        · cases seq ky [115, 112, 101, 99]
          · cases seq ky [116, 120, 110]
            · cases seq ky [105, 110, 102, 111] <;> rfl
            · rfl
          · rfl
        · rfl
      · rfl
    · rfl
  · rfl
theorem rowOut_mk (c : J) (b : Bool) : mkRow (toI (lget (rowOut c b).1 0 .unk)) (toS (lget (rowOut c b).1 1 .unk)) (toI (lget (rowOut c b).1 2 .unk)) (toI (lget (rowOut c b).1 3 .unk)) (toR (lget (rowOut c b).1 4 .unk)) (toR (lget (rowOut c b).1 5 .unk)) (toS (lget (rowOut c b).1 6 .unk)) (toS (lget (rowOut c b).1 7 .unk)) (toS (lget (rowOut c b).1 8 .unk)) (toI (lget (rowOut c b).1 9 .unk)) (toI (lget (rowOut c b).1 10 .unk)) (toR (lget (rowOut c b).1 11 .unk)) (toI (lget (rowOut c b).1 12 .unk)) (toI (lget (rowOut c b).1 13 .unk)) (toR (lget (rowOut c b).1 14 .unk)) (toS (lget (rowOut c b).1 15 .unk)) (toI (lget (rowOut c b).1 16 .unk)) (toI (lget (rowOut c b).1 17 .unk)) (toI (lget (rowOut c b).1 18 .unk)) (toI (lget (rowOut c b).1 19 .unk)) = (rowOut c b).1 := by
  unfold rowOut
  rcases subK c with _ | ⟨ky, _ | ⟨k2, ks⟩⟩
  · rfl
  · rcases subL c with _ | ⟨d, l⟩
    · rfl
    · exact rowIn_mk ky d b
  · rfl
theorem run13 {α : Type} (k N : Nat) (hk : N < k) (hN : N ≤ 100000000) (h100 : 100 ≤ k) (hk2 : k ≤ 1000000000000) (x0 : LB) (y0 : Int) (y1 : Bool) (y2 : Int) (y3 : LB) (y5 : LR) (K : LR → Int → Option α) : ∀ (l : List J) (f : Nat) (pre : List J) (acc : LR) (b : Bool), (∀ c ∈ l, okJ N c) → l.length < f → (pre ++ l).length ≤ N → acc.length = pre.length → (∀ r ∈ acc, wfRow r) →
    L13al0 k K x0 y0 y1 y2 y3 (rowsJ (pre ++ l)) y5 f acc (pre.length : Int) b = (bif (foldO rowOut l b).2 then K [] 1900 else bif putOK (acc ++ (foldO rowOut l b).1) then (bif seq (putT (acc ++ (foldO rowOut l b).1)) x0 then K (acc ++ (foldO rowOut l b).1) 0 else K [] 1900) else K [] 1900) := by
  intro l
  induction l with
  | nil =>
    intro f pre acc b ho hf hb ha hw
    obtain ⟨f, rfl⟩ : ∃ g, f = g + 1 := ⟨f - 1, by omega⟩
    have : ilt (pre.length : Int) (rlen (rowsJ (pre ++ []))) = false := by simp [ilt, rlen, rowsJ_len]
    simp only [L13al0, T13al0, this, cond_false, foldO]
    rw [f11 k h100 hk2 acc (by simp at hb; omega) hw]
    simp only [List.append_nil]
    unfold putN
    cases b
    · cases putOK acc
      · rfl
      · simp only [cond_true, cond_false]
        cases seq (putT acc) x0 <;> rfl
    · rfl
  | cons c l ih =>
    intro f pre acc b ho hf hb ha hw
    obtain ⟨f, rfl⟩ : ∃ g, f = g + 1 := ⟨f - 1, by omega⟩
    have hl : (pre ++ c :: l).length = pre.length + (l.length + 1) := by simp
    have e1 := rowsJ_lt pre c l
    have e2 := rowsJ_get pre c l
    have e3 : room (acc.length + 1) 264 = true := room_in (by omega)
    have hc := ho c (by simp)
    have st : L13al0 k K x0 y0 y1 y2 y3 (rowsJ (pre ++ c :: l)) y5 (f + 1) acc (pre.length : Int) b = L13al0 k K x0 y0 y1 y2 y3 (rowsJ (pre ++ c :: l)) y5 f (acc ++ [mkRow (toI (lget (rowOut c b).1 0 .unk)) (toS (lget (rowOut c b).1 1 .unk)) (toI (lget (rowOut c b).1 2 .unk)) (toI (lget (rowOut c b).1 3 .unk)) (toR (lget (rowOut c b).1 4 .unk)) (toR (lget (rowOut c b).1 5 .unk)) (toS (lget (rowOut c b).1 6 .unk)) (toS (lget (rowOut c b).1 7 .unk)) (toS (lget (rowOut c b).1 8 .unk)) (toI (lget (rowOut c b).1 9 .unk)) (toI (lget (rowOut c b).1 10 .unk)) (toR (lget (rowOut c b).1 11 .unk)) (toI (lget (rowOut c b).1 12 .unk)) (toI (lget (rowOut c b).1 13 .unk)) (toR (lget (rowOut c b).1 14 .unk)) (toS (lget (rowOut c b).1 15 .unk)) (toI (lget (rowOut c b).1 16 .unk)) (toI (lget (rowOut c b).1 17 .unk)) (toI (lget (rowOut c b).1 18 .unk)) (toI (lget (rowOut c b).1 19 .unk))]) ((pre ++ [c]).length : Int) (rowOut c b).2 := by
      simp only [L13al0, T13al0, e1, e2, ile_pre, cond_true, wadd_pre pre c (by omega)]
      refine (f46 k N hk hN c hc b _).trans ?_
      unfold kRow
      rw [e3]; rfl
    have hrow := rowOut_mk c b
    rw [st, hrow]
    have := ih f (pre ++ [c]) (acc ++ [(rowOut c b).1]) (rowOut c b).2 (fun d hd => ho d (by simp [hd])) (by simpa using hf) (by rw [← app_snoc]; exact hb) (by simp [ha]) (fun r hr => by
      rcases List.mem_append.1 hr with hr | hr
      · exact hw r hr
      · simp at hr; rw [hr]; exact rowOut_wf c b hc)
    rw [← app_snoc, ← app_snoc] at this
    exact this
/-- Get, whatever it is handed -/
theorem f13 {α : Type} (k : Nat) (hk : 65536 < k) (hk2 : k ≤ 1000000000000) (x : LB) (hx : x.length + 100 ≤ k) (hx2 : x.length ≤ 100000000000) (K : LR → Int → Option α) : f13a k x K = K (getR x) (getN x) := by
  unfold f13a T13a
  rcases f45 k x hx hx2 (fun y0 y1 y2 y3 y4 y5 y6 => (bif (ine y6 (0 : Int)) then (K [] (1900 : Int)) else (bif (ine y0 (4 : Int)) then (K [] (1900 : Int)) else ((L13al0 k K x y0 y1 y2 y3 y4 y5 k) [] (0 : Int) false)))) with ⟨j, hj, h⟩ | ⟨hj, a, b, c, s, L, Ks, e, he, h⟩
  · refine (show _ = _ from h).trans ?_
    unfold getR getN getOK readP
    rw [hj]
    cases j with
    | list l =>
      have ho := (parseP_ok hj).2
      unfold okJ at ho
      have := run13 k 65536 hk (by omega) (by omega) hk2 x 4 false 0 [] [] K l k [] [] false (okL_mem ho.2) (by omega) (by simpa using ho.1) rfl (fun r hr => by simp at hr)
      refine (show _ = _ from this).trans ?_
      simp only [List.nil_append]
      cases (foldO rowOut l false).2
      · cases putOK (foldO rowOut l false).1
        · rfl
        · cases seq (putT (foldO rowOut l false).1) x <;> rfl
      · rfl
    | null => rfl
    | bool v => rfl
    | int n => rfl
    | text t => rfl
    | obj ks l => rfl
  · refine (show _ = _ from h).trans ?_
    have : ine e 0 = true := by simp [ine, he]
    rw [this]
    unfold getR getN getOK readP
    rw [hj]; rfl
/-- what Get takes is what Put writes -/
theorem get_put {s : LB} (h : getOK s = true) : putOK (getR s) = true ∧ putT (getR s) = s ∧ (∀ r ∈ getR s, wfRow r) ∧ (getR s).length ≤ 65536 := by
  unfold getR
  rw [h, cond_true]
  unfold getOK at h
  unfold readP at h ⊢
  cases hp : parseP s with
  | none => rw [hp] at h; cases h
  | some j =>
    cases j with
    | list l =>
      rw [hp] at h
      have ho := (parseP_ok hp).2
      unfold okJ at ho
      show putOK (foldO rowOut l false).1 = true ∧ putT (foldO rowOut l false).1 = s ∧ (∀ r ∈ (foldO rowOut l false).1, wfRow r) ∧ (foldO rowOut l false).1.length ≤ 65536
      have h' : (bif (foldO rowOut l false).2 then false else bif putOK (foldO rowOut l false).1 then seq (putT (foldO rowOut l false).1) s else false) = true := h
      cases h1 : (foldO rowOut l false).2
      · rw [h1, cond_false] at h'
        cases h2 : putOK (foldO rowOut l false).1
        · rw [h2] at h'; cases h'
        · rw [h2, cond_true] at h'
          refine ⟨rfl, ?_, foldO_all (fun j b hj => rowOut_wf j b hj) _ _ (okL_mem ho.2), by rw [foldO_len]; exact ho.1⟩
          simpa [seq] using h'
      · rw [h1] at h'; cases h'
    | _ => rw [hp] at h; cases h
end Go.AI

/-
  PLAIN LAWS: a text that was written is read again.
-/
set_option maxRecDepth 100000
set_option linter.unusedVariables false
set_option linter.unusedSimpArgs false
namespace Go.AI
open Go.Proofs

theorem byte_all {P : UInt8 → Prop} [DecidablePred P] (h : ∀ i : Fin 256, P (UInt8.ofNat i.1)) (c : UInt8) : P c := by
  simpa using h ⟨c.toNat, c.toNat_lt⟩
def specials : List UInt8 := [0, 1, 2, 3, 4, 5, 6, 7, 8, 9, 10, 11, 12, 13, 14, 15, 16, 17, 18, 19, 20, 21, 22, 23, 24, 25, 26, 27, 28, 29, 30, 31, 34, 92]
theorem special_mem (c : UInt8) : c ∈ specials ∨ (esc c = [c] ∧ 32 ≤ c.toNat ∧ c.toNat ≠ 34 ∧ c.toNat ≠ 92) :=
  byte_all (P := fun c => c ∈ specials ∨ (esc c = [c] ∧ 32 ≤ c.toNat ∧ c.toNat ≠ 34 ∧ c.toNat ≠ 92)) (by decide +kernel) c
theorem special_lt (c : UInt8) (h : c ∈ specials) : c.toNat < 128 := by
  have := byte_all (P := fun c => c ∈ specials → c.toNat < 128) (by decide +kernel) c
  exact this h
theorem special_esc (c : UInt8) (h : c ∈ specials) : esc c = 92 :: (esc c).drop 1 := by
  have := byte_all (P := fun c => c ∈ specials → esc c = 92 :: (esc c).drop 1) (by decide +kernel) c
  exact this h
theorem esc_0 (T : LB) : escapedP ((esc 0).drop 1 ++ T) = some ([0], T) := by kernel_rfl
theorem esc_1 (T : LB) : escapedP ((esc 1).drop 1 ++ T) = some ([1], T) := by kernel_rfl
theorem esc_2 (T : LB) : escapedP ((esc 2).drop 1 ++ T) = some ([2], T) := by kernel_rfl
theorem esc_3 (T : LB) : escapedP ((esc 3).drop 1 ++ T) = some ([3], T) := by kernel_rfl
theorem esc_4 (T : LB) : escapedP ((esc 4).drop 1 ++ T) = some ([4], T) := by kernel_rfl
theorem esc_5 (T : LB) : escapedP ((esc 5).drop 1 ++ T) = some ([5], T) := by kernel_rfl
theorem esc_6 (T : LB) : escapedP ((esc 6).drop 1 ++ T) = some ([6], T) := by kernel_rfl
theorem esc_7 (T : LB) : escapedP ((esc 7).drop 1 ++ T) = some ([7], T) := by kernel_rfl
theorem esc_8 (T : LB) : escapedP ((esc 8).drop 1 ++ T) = some ([8], T) := by kernel_rfl
theorem esc_9 (T : LB) : escapedP ((esc 9).drop 1 ++ T) = some ([9], T) := by kernel_rfl
theorem esc_10 (T : LB) : escapedP ((esc 10).drop 1 ++ T) = some ([10], T) := by kernel_rfl
theorem esc_11 (T : LB) : escapedP ((esc 11).drop 1 ++ T) = some ([11], T) := by kernel_rfl
theorem esc_12 (T : LB) : escapedP ((esc 12).drop 1 ++ T) = some ([12], T) := by kernel_rfl
theorem esc_13 (T : LB) : escapedP ((esc 13).drop 1 ++ T) = some ([13], T) := by kernel_rfl
theorem esc_14 (T : LB) : escapedP ((esc 14).drop 1 ++ T) = some ([14], T) := by kernel_rfl
theorem esc_15 (T : LB) : escapedP ((esc 15).drop 1 ++ T) = some ([15], T) := by kernel_rfl
theorem esc_16 (T : LB) : escapedP ((esc 16).drop 1 ++ T) = some ([16], T) := by kernel_rfl
theorem esc_17 (T : LB) : escapedP ((esc 17).drop 1 ++ T) = some ([17], T) := by kernel_rfl
theorem esc_18 (T : LB) : escapedP ((esc 18).drop 1 ++ T) = some ([18], T) := by kernel_rfl
theorem esc_19 (T : LB) : escapedP ((esc 19).drop 1 ++ T) = some ([19], T) := by kernel_rfl
theorem esc_20 (T : LB) : escapedP ((esc 20).drop 1 ++ T) = some ([20], T) := by kernel_rfl
theorem esc_21 (T : LB) : escapedP ((esc 21).drop 1 ++ T) = some ([21], T) := by kernel_rfl
theorem esc_22 (T : LB) : escapedP ((esc 22).drop 1 ++ T) = some ([22], T) := by kernel_rfl
theorem esc_23 (T : LB) : escapedP ((esc 23).drop 1 ++ T) = some ([23], T) := by kernel_rfl
theorem esc_24 (T : LB) : escapedP ((esc 24).drop 1 ++ T) = some ([24], T) := by kernel_rfl
theorem esc_25 (T : LB) : escapedP ((esc 25).drop 1 ++ T) = some ([25], T) := by kernel_rfl
theorem esc_26 (T : LB) : escapedP ((esc 26).drop 1 ++ T) = some ([26], T) := by kernel_rfl
theorem esc_27 (T : LB) : escapedP ((esc 27).drop 1 ++ T) = some ([27], T) := by kernel_rfl
theorem esc_28 (T : LB) : escapedP ((esc 28).drop 1 ++ T) = some ([28], T) := by kernel_rfl
theorem esc_29 (T : LB) : escapedP ((esc 29).drop 1 ++ T) = some ([29], T) := by kernel_rfl
theorem esc_30 (T : LB) : escapedP ((esc 30).drop 1 ++ T) = some ([30], T) := by kernel_rfl
theorem esc_31 (T : LB) : escapedP ((esc 31).drop 1 ++ T) = some ([31], T) := by kernel_rfl
theorem esc_34 (T : LB) : escapedP ((esc 34).drop 1 ++ T) = some ([34], T) := by kernel_rfl
theorem esc_92 (T : LB) : escapedP ((esc 92).drop 1 ++ T) = some ([92], T) := by kernel_rfl
theorem special_back (c : UInt8) (h : c ∈ specials) (T : LB) : escapedP ((esc c).drop 1 ++ T) = some ([c], T) := by
  simp only [specials, List.mem_cons, List.not_mem_nil, or_false] at h
  rcases h with rfl | rfl | rfl | rfl | rfl | rfl | rfl | rfl | rfl | rfl | rfl | rfl | rfl | rfl | rfl | rfl | rfl | rfl | rfl | rfl | rfl | rfl | rfl | rfl | rfl | rfl | rfl | rfl | rfl | rfl | rfl | rfl | rfl | rfl
  · exact esc_0 T
  · exact esc_1 T
  · exact esc_2 T
  · exact esc_3 T
  · exact esc_4 T
  · exact esc_5 T
  · exact esc_6 T
  · exact esc_7 T
  · exact esc_8 T
  · exact esc_9 T
  · exact esc_10 T
  · exact esc_11 T
  · exact esc_12 T
  · exact esc_13 T
  · exact esc_14 T
  · exact esc_15 T
  · exact esc_16 T
  · exact esc_17 T
  · exact esc_18 T
  · exact esc_19 T
  · exact esc_20 T
  · exact esc_21 T
  · exact esc_22 T
  · exact esc_23 T
  · exact esc_24 T
  · exact esc_25 T
  · exact esc_26 T
  · exact esc_27 T
  · exact esc_28 T
  · exact esc_29 T
  · exact esc_30 T
  · exact esc_31 T
  · exact esc_34 T
  · exact esc_92 T
theorem plain_high (c : UInt8) (h : 128 ≤ c.toNat) : esc c = [c] := by
  have := byte_all (P := fun c => 128 ≤ c.toNat → esc c = [c]) (by decide +kernel) c
  exact this h
theorem fits_high (c : UInt8) (h : fitsP 1 c = true) : c.toNat < 128 := by
  have := byte_all (P := fun c => fitsP 1 c = true → c.toNat < 128) (by decide +kernel) c
  exact this h
theorem and_high (c : UInt8) (h : ine (wand .u8 (c.toNat : Int) 192) 128 = false) : 128 ≤ c.toNat := by
  have := byte_all (P := fun c => ine (wand .u8 (c.toNat : Int) 192) 128 = false → 128 ≤ c.toNat) (by decide +kernel) c
  exact this h
theorem innerP_high : ∀ (m : Nat) (r : Int) (l : LB) (q : Int), innerP m r l = some q → ∀ b ∈ l.take m, 128 ≤ b.toNat
  | 0, _, _, _, _, b, hb => by simp at hb
  | _ + 1, _, [], _, h, b, hb => by simp at hb
  | m + 1, r, c :: l, q, h, b, hb => by
    unfold innerP at h
    cases hc : ine (wand .u8 (c.toNat : Int) 192) 128
    · rw [hc, cond_false] at h
      simp only [List.take_succ_cons, List.mem_cons] at hb
      rcases hb with rfl | hb
      · exact and_high _ hc
      · exact innerP_high m _ l q h b hb
    · rw [hc, cond_true] at h; cases h
theorem flat_high : ∀ (l : LB), (∀ b ∈ l, 128 ≤ b.toNat) → l.flatMap esc = l
  | [], _ => rfl
  | c :: l, h => by
    rw [List.flatMap_cons, plain_high c (h c (by simp)), flat_high l (fun b hb => h b (by simp [hb]))]; rfl
/-- a rune that needs no escape stands as it is -/
theorem rune_plain (c : UInt8) (l : LB) (h : (runeP (c :: l)).2 ≠ 0) (hs : c ∉ specials) : ∃ m : Nat, 1 ≤ m ∧ m ≤ l.length + 1 ∧ (runeP (c :: l)).2 = (m : Int) ∧ 32 ≤ (runeP (c :: l)).1 ∧ ((c :: l).take m).flatMap esc = (c :: l).take m ∧ ∀ l', runeP ((c :: l).take m ++ l') = runeP (c :: l) := by
  rcases special_mem c with hm | ⟨he, h32, _, _⟩
  · exact absurd hm hs
  · by_cases hc : c.toNat < 128
    · have e := ascii_rune c hc l
      refine ⟨1, by omega, by omega, by rw [e]; rfl, by rw [e]; show (32 : Int) ≤ (c.toNat : Int); omega, ?_, fun l' => ?_⟩
      · simp [he]
      · rw [e]; exact ascii_rune c hc _
    · obtain ⟨n, h1, h2, h3, h4, h5, h6, h7, h8⟩ := runeP_some c l h
      obtain ⟨n', g1, g2, g3, g4⟩ := runeP_form c l h
      have hn2 : n' ≠ 1 := fun e => by subst e; exact absurd (fits_high c g3) hc
      rcases tryP_cases n' c l g1 with h0 | ⟨hl, r, hi, q1, q2, q3⟩
      · rw [g4 l, h0] at h; exact absurd rfl h
      · have en : n = n' := by
          have := h5
          rw [g4 l, q3] at this
          have e : (n' : Int) = (n : Int) := this
          omega
        subst en
        have hl2 : leastN n ≥ 128 := by
          match n, h1, h2, hn2 with
          | 2, _, _, _ => exact Int.le_refl _
          | 3, _, _, _ => show (128 : Int) ≤ 2048; omega
          | 4, _, _, _ => show (128 : Int) ≤ 65536; omega
        obtain ⟨m, rfl⟩ : ∃ m, n = m + 1 := ⟨n - 1, by omega⟩
        refine ⟨m + 1, by omega, h3, h5, by omega, flat_high _ (fun b hb => ?_), h8⟩
        simp only [List.take_succ_cons, List.mem_cons] at hb
        rcases hb with rfl | hb
        · omega
        · exact innerP_high m _ l r hi b hb
theorem textN_rt : ∀ (n : Nat) (l : LB), validN n l = true → ∀ (g : Nat) (acc rest : LB), l.length < g → textN g acc (l.flatMap esc ++ 34 :: rest) = some (acc ++ l, rest) := by
  intro n
  induction n with
  | zero =>
    intro l hv g acc rest hg
    obtain ⟨g, rfl⟩ : ∃ q, g = q + 1 := ⟨g - 1, by omega⟩
    cases l with
    | nil => rw [List.append_nil]; rfl
    | cons c l => cases hv
  | succ n ih =>
    intro l hv g acc rest hg
    obtain ⟨g, rfl⟩ : ∃ q, g = q + 1 := ⟨g - 1, by omega⟩
    cases l with
    | nil => rw [List.append_nil]; rfl
    | cons c l =>
      unfold validN at hv
      cases hz : ieq (runeP (c :: l)).2 0
      · rw [hz, cond_false] at hv
        have hne : (runeP (c :: l)).2 ≠ 0 := by intro e; rw [e] at hz; cases hz
        by_cases hs : c ∈ specials
        · have e := ascii_rune c (special_lt c hs) l
          rw [e] at hv
          have hv' : validN n l = true := hv
          rw [List.flatMap_cons, special_esc c hs, List.append_assoc, List.cons_append]
          unfold textN
          show (bif ieq (92 : Int) 34 then _ else bif ieq (92 : Int) 92 then (escapedP ((esc c).drop 1 ++ (l.flatMap esc ++ 34 :: rest))).bind _ else _) = _
          rw [special_back c hs]
          show textN g (acc ++ [c]) (l.flatMap esc ++ 34 :: rest) = _
          rw [ih l hv' g (acc ++ [c]) rest (by simpa using hg)]
          simp
        · obtain ⟨m, h1, h2, h3, h4, h5, h6⟩ := rune_plain c l hne hs
          rw [h3] at hv
          have hv' : validN n ((c :: l).drop m) = true := hv
          have hsp : (c :: l).flatMap esc ++ 34 :: rest = (c :: l).take m ++ (((c :: l).drop m).flatMap esc ++ 34 :: rest) := by
            conv => lhs; rw [← List.take_append_drop m (c :: l)]
            rw [List.flatMap_append, h5, List.append_assoc]
          have hlen : ((c :: l).take m).length = m := by simp; omega
          have hrec := ih ((c :: l).drop m) hv' g (acc ++ (c :: l).take m) rest (by simp at hg ⊢; omega)
          have hr := h6 (((c :: l).drop m).flatMap esc ++ 34 :: rest)
          have ht : ((c :: l).take m ++ (((c :: l).drop m).flatMap esc ++ 34 :: rest)).take m = (c :: l).take m := List.take_left' hlen
          have hd : ((c :: l).take m ++ (((c :: l).drop m).flatMap esc ++ 34 :: rest)).drop m = ((c :: l).drop m).flatMap esc ++ 34 :: rest := List.drop_left' hlen
          obtain ⟨m', rfl⟩ : ∃ m', m = m' + 1 := ⟨m - 1, by omega⟩
          have hh : headP ((c :: l).take (m' + 1) ++ (((c :: l).drop (m' + 1)).flatMap esc ++ 34 :: rest)) = (c.toNat : Int) := rfl
          rw [hsp]
          unfold textN
          rw [hh, hr, h3]
          rcases special_mem c with hm | ⟨_, _, n34, n92⟩
          · exact absurd hm hs
          · have a1 : ieq (c.toNat : Int) 34 = false := by simp [ieq]; omega
            have a2 : ieq (c.toNat : Int) 92 = false := by simp [ieq]; omega
            have a3 : ieq (((m' + 1 : Nat)) : Int) 0 = false := by simp [ieq]; omega
            have a4 : ilt (runeP (c :: l)).1 32 = false := by simp [ilt]; omega
            rw [a1, a2, a3, a4]
            simp only [cond_false, Int.toNat_natCast]
            rw [ht, hd, hrec]
            simp
      · rw [hz] at hv; cases hv
theorem text_rt (s : LB) (h : validP s = true) (rest : LB) : textP (quoteP s ++ rest) = some (s, rest) := by
  unfold quoteP quoteTail textP
  show (takeP 34 (34 :: (s.flatMap esc ++ [34] ++ rest))).bind _ = _
  have : takeP 34 (34 :: (s.flatMap esc ++ [34] ++ rest)) = some (s.flatMap esc ++ 34 :: rest) := by
    rw [takeP_cons, List.append_assoc]; rfl
  rw [this, Option.bind_some]
  have hl : s.length ≤ (s.flatMap esc ++ 34 :: rest).length := by
    have : ∀ l : LB, l.length ≤ (l.flatMap esc).length := by
      intro l
      induction l with
      | nil => simp
      | cons c l ih =>
        have h1 := byte_all (P := fun c => 1 ≤ (esc c).length) (by decide +kernel) c
        rw [List.flatMap_cons, List.length_append, List.length_cons]; omega
    have := this s
    rw [List.length_append]; omega
  rw [textN_rt s.length s h _ [] rest (by omega)]
  rfl
end Go.AI

/-
  PLAIN LAWS: a number that was written is read again.
-/
set_option maxRecDepth 100000
set_option linter.unusedVariables false
set_option linter.unusedSimpArgs false
namespace Go.AI
open Go.Proofs

theorem dig_small {u : Nat} (h : u < 10) : Lib.decDigits u = [UInt8.ofNat (48 + u)] := by rw [Lib.decDigits, dif_pos h]
theorem dig_big {u : Nat} (h : ¬ u < 10) : Lib.decDigits u = Lib.decDigits (u / 10) ++ [UInt8.ofNat (48 + u % 10)] := by rw [Lib.decDigits, dif_neg h]
theorem dig_nat {d : Nat} (h : d < 10) : ((UInt8.ofNat (48 + d)).toNat : Int) = 48 + d := by
  have key : ∀ i : Fin 10, (UInt8.ofNat (48 + i.1)).toNat = 48 + i.1 := by decide +kernel
  have := key ⟨d, h⟩
  simp only at this
  rw [this]; omega
theorem numN_step (minus z : Bool) (f n : Nat) (v : Nat) (hv : v ≤ 1152921504606846976) (d : Nat) (hd : d < 10) (rest : LB) :
    numN minus z (f + 1) n (v : Int) (UInt8.ofNat (48 + d) :: rest) = numN minus z f (n + 1) ((v * 10 + d : Nat) : Int) rest := by
  have e0 := dig_nat hd
  have hh : headP (UInt8.ofNat (48 + d) :: rest) = 48 + d := e0
  have h1 : digB (48 + (d : Int)) = true := by
    unfold digB; rw [cond_iff]
    refine .inl ⟨by simp [ige]; omega, by simp [ile]; omega⟩
  have h2 : igt (v : Int) 1152921504606846976 = false := by simp [igt]; omega
  have h3 : wadd .u64 (wmul .u64 10 (v : Int)) (wcv .u64 (wsub .u8 (48 + (d : Int)) 48)) = ((v * 10 + d : Nat) : Int) := by
    simp only [wadd, wmul, wcv, wsub, IntKind.wrap, IntKind.signed, IntKind.bits]
    simp
    omega
  conv => lhs; unfold numN
  rw [hh, h1, h2, cond_true, cond_false, h3]
  rfl
theorem numN_digits (minus z : Bool) : ∀ (u : Nat), u ≤ 9223372036854775808 → ∀ (f n : Nat) (rest : LB), numN minus z (f + (Lib.decDigits u).length) n 0 (Lib.decDigits u ++ rest) = numN minus z f (n + (Lib.decDigits u).length) (u : Int) rest := by
  intro u
  induction u using Nat.strongRecOn with
  | ind u ih =>
    intro hu f n rest
    by_cases h : u < 10
    · rw [dig_small h]
      have := numN_step minus z f n 0 (by omega) u h rest
      simpa using this
    · rw [dig_big h, List.append_assoc]
      have h1 := ih (u / 10) (by omega) (by omega) (f + 1) n ([UInt8.ofNat (48 + u % 10)] ++ rest)
      rw [List.length_append]
      have ea : f + ((Lib.decDigits (u / 10)).length + [UInt8.ofNat (48 + u % 10)].length) = f + 1 + (Lib.decDigits (u / 10)).length := by simp; omega
      rw [ea, h1]
      have h2 := numN_step minus z f (n + (Lib.decDigits (u / 10)).length) (u / 10) (by omega) (u % 10) (by omega) rest
      have eb : u / 10 * 10 + u % 10 = u := by omega
      rw [eb] at h2
      exact h2
theorem digits_pos (u : Nat) : 1 ≤ (Lib.decDigits u).length := by
  by_cases h : u < 10
  · rw [dig_small h]; simp
  · rw [dig_big h]; simp
theorem digits_head : ∀ (u : Nat), ∃ (d : Nat) (l : LB), d < 10 ∧ Lib.decDigits u = UInt8.ofNat (48 + d) :: l ∧ (1 ≤ u → 1 ≤ d) := by
  intro u
  induction u using Nat.strongRecOn with
  | ind u ih =>
    by_cases h : u < 10
    · exact ⟨u, [], h, dig_small h, fun h => h⟩
    · obtain ⟨d, l, h1, h2, h3⟩ := ih (u / 10) (by omega)
      exact ⟨d, l ++ [UInt8.ofNat (48 + u % 10)], h1, by rw [dig_big h, h2]; rfl, fun _ => h3 (by omega)⟩
theorem digits_one (u : Nat) (h : (Lib.decDigits u).length ≠ 1) : 10 ≤ u := by
  by_cases h0 : u < 10
  · rw [dig_small h0] at h; simp at h
  · omega
theorem num_read (minus : Bool) (u : Nat) (hu : u ≤ 9223372036854775808) (hm : bif minus then 1 ≤ u else u < 9223372036854775808) (rest : LB) (hr : digB (headP rest) = false) (f : Nat) (hf : (Lib.decDigits u).length < f) :
    numN minus (zeroP (Lib.decDigits u ++ rest)) f 0 0 (Lib.decDigits u ++ rest) = some (bif minus then -(u : Int) else (u : Int), rest) := by
  obtain ⟨g, rfl⟩ : ∃ g, f = (g + 1) + (Lib.decDigits u).length := ⟨f - 1 - (Lib.decDigits u).length, by omega⟩
  rw [numN_digits minus _ u hu, Nat.zero_add]
  unfold numN
  rw [hr, cond_false]
  obtain ⟨d, l, h1, h2, h3⟩ := digits_head u
  have hp := digits_pos u
  have hz : (bif Nat.blt 1 (Lib.decDigits u).length then zeroP (Lib.decDigits u ++ rest) else false) = false := by
    by_cases hl : (Lib.decDigits u).length = 1
    · rw [hl]; rfl
    · have h10 := digits_one u hl
      have hd := h3 (by omega)
      have : zeroP (Lib.decDigits u ++ rest) = false := by
        rw [h2]
        show ieq ((UInt8.ofNat (48 + d)).toNat : Int) 48 = false
        rw [dig_nat h1]; simp [ieq]; omega
      rw [this]; cases Nat.blt 1 (Lib.decDigits u).length <;> rfl
  have hb : Nat.beq (Lib.decDigits u).length 0 = false := by
    cases hh : Nat.beq (Lib.decDigits u).length 0
    · rfl
    · have := Nat.eq_of_beq_eq_true hh; omega
  unfold numEnd
  rw [hb, hz]
  simp only [cond_false]
  cases minus
  · have hm' : u < 9223372036854775808 := hm
    have : ilt (u : Int) 9223372036854775808 = true := by simp [ilt]; omega
    simp only [cond_false, this, cond_true]
    have : wcv .i64 (u : Int) = (u : Int) := by
      simp only [wcv, IntKind.wrap, IntKind.signed, IntKind.bits]
      simp
      omega
    rw [this]
  · have hm' : 1 ≤ u := hm
    have a1 : ieq (u : Int) 0 = false := by simp [ieq]; omega
    have a2 : ile (u : Int) 9223372036854775808 = true := by simp [ile]; omega
    simp only [cond_true, a1, a2, cond_false]
    have : wcv .i64 (wneg .u64 (u : Int)) = -(u : Int) := by
      simp only [wcv, wneg, IntKind.wrap, IntKind.signed, IntKind.bits]
      simp
      omega
    rw [this]
theorem number_rt (n : Int) (h : intOK n = true) (rest : LB) (hr : digB (headP rest) = false) : numberP (Lib.itoa n ++ rest) = some (n, rest) := by
  simp only [intOK, Bool.and_eq_true, decide_eq_true_eq] at h
  unfold Lib.itoa numberP
  by_cases hn : n < 0
  · rw [if_pos hn]
    show (bif ieq (45 : Int) 45 then numN true (zeroP (Lib.decDigits n.natAbs ++ rest)) ((Lib.decDigits n.natAbs ++ rest).length + 1) 0 0 (Lib.decDigits n.natAbs ++ rest) else _) = _
    have := num_read true n.natAbs (by omega) (show 1 ≤ n.natAbs by omega) rest hr ((Lib.decDigits n.natAbs ++ rest).length + 1) (by simp; omega)
    rw [show ieq (45 : Int) 45 = true from rfl, cond_true, this]
    have : -(n.natAbs : Int) = n := by omega
    rw [cond_true, this]
  · rw [if_neg hn]
    obtain ⟨d, l, h1, h2, h3⟩ := digits_head n.toNat
    have hd : ieq (headP (Lib.decDigits n.toNat ++ rest)) 45 = false := by
      rw [h2]
      show ieq ((UInt8.ofNat (48 + d)).toNat : Int) 45 = false
      rw [dig_nat h1]; simp [ieq]; omega
    rw [hd, cond_false]
    have := num_read false n.toNat (by omega) (show n.toNat < 9223372036854775808 by omega) rest hr ((Lib.decDigits n.toNat ++ rest).length + 1) (by simp; omega)
    rw [this]
    have : (n.toNat : Int) = n := by omega
    rw [cond_false, this]
theorem itoa_head (n : Int) : ∃ c l, Lib.itoa n = c :: l ∧ (c = 45 ∨ (48 ≤ c.toNat ∧ c.toNat ≤ 57)) := by
  unfold Lib.itoa
  by_cases hn : n < 0
  · rw [if_pos hn]; exact ⟨_, _, rfl, .inl rfl⟩
  · rw [if_neg hn]
    obtain ⟨d, l, h1, h2, h3⟩ := digits_head n.toNat
    refine ⟨_, _, h2, .inr ?_⟩
    have := dig_nat h1
    omega
end Go.AI

/-
  PLAIN LAWS: a value that was written is read again.
-/
set_option maxRecDepth 100000
set_option linter.unusedVariables false
set_option linter.unusedSimpArgs false
namespace Go.AI
open Go.Proofs

/-- what may follow a value -/
def okRest (rest : LB) : Prop := digB (headP rest) = false
/-- how a written value begins -/
theorem render_head (j : J) : ∃ c l, render j = c :: l ∧ isW c = false ∧ ieq (c.toNat : Int) 93 = false ∧ ieq (c.toNat : Int) 125 = false := by
  cases j with
  | null => exact ⟨110, [117, 108, 108], rfl, rfl, rfl, rfl⟩
  | bool b => cases b
              · exact ⟨102, [97, 108, 115, 101], by kernel_rfl, rfl, rfl, rfl⟩
              · exact ⟨116, [114, 117, 101], by kernel_rfl, rfl, rfl, rfl⟩
  | int n =>
    obtain ⟨c, l, h, hc⟩ := itoa_head n
    refine ⟨c, l, h, ?_⟩
    rcases hc with rfl | ⟨h1, h2⟩
    · exact ⟨rfl, rfl, rfl⟩
    · have := byte_all (P := fun c => 48 ≤ c.toNat → c.toNat ≤ 57 → isW c = false ∧ ieq (c.toNat : Int) 93 = false ∧ ieq (c.toNat : Int) 125 = false) (by decide +kernel) c
      exact this h1 h2
  | text s => exact ⟨34, _, rfl, rfl, rfl, rfl⟩
  | list l => exact ⟨91, _, rfl, rfl, rfl, rfl⟩
  | obj ks l => exact ⟨123, _, rfl, rfl, rfl, rfl⟩
theorem white_head {c : UInt8} {l : LB} (h : isW c = false) : whiteP (c :: l) = c :: l := by
  unfold whiteP; rw [List.dropWhile_cons, h]; rfl
theorem white_render (j : J) (rest : LB) : whiteP (render j ++ rest) = render j ++ rest := by
  obtain ⟨c, l, h, hw, _⟩ := render_head j
  rw [h, List.cons_append, white_head hw]
theorem items_pos : ∀ (first : Bool) (l : List J), l.length ≤ (items first l).length
  | _, [] => by simp
  | first, j :: l => by
    unfold items
    obtain ⟨c, m, h, _⟩ := render_head j
    have := items_pos false l
    rw [h]; simp; omega
theorem members_pos : ∀ (first : Bool) (ks : List LB) (l : List J), l.length ≤ (members first ks l).length
  | _, _, [] => by simp
  | first, ks, j :: l => by
    unfold members
    obtain ⟨c, m, h, _⟩ := render_head j
    have := members_pos false (ldrop 1 ks) l
    rw [h]; simp; omega
/-- what follows a member -/
theorem items_next (l : List J) (rest : LB) : okRest (items false l ++ 93 :: rest) ∧ whiteP (items false l ++ 93 :: rest) = items false l ++ 93 :: rest := by
  cases l with
  | nil => unfold items; exact ⟨rfl, white_head (c := 93) rfl⟩
  | cons j l => unfold items; exact ⟨rfl, white_head (c := 44) rfl⟩
theorem members_next (ks : List LB) (l : List J) (rest : LB) : okRest (members false ks l ++ 125 :: rest) ∧ whiteP (members false ks l ++ 125 :: rest) = members false ks l ++ 125 :: rest := by
  cases l with
  | nil => unfold members; exact ⟨rfl, white_head (c := 125) rfl⟩
  | cons j l => unfold members; exact ⟨rfl, white_head (c := 44) rfl⟩
theorem list_rt (v : LB → Option (J × LB)) : ∀ (l : List J) (f : Nat) (first : Bool) (js : List J) (rest : LB), (∀ j ∈ l, ∀ rest, okRest rest → v (render j ++ rest) = some (j, rest)) → l.length < f →
    loopP v false f first [] js (items first l ++ 93 :: rest) = some (([], js ++ l), rest)
  | [], f, first, js, rest, hv, hf => by
    obtain ⟨f, rfl⟩ : ∃ g, f = g + 1 := ⟨f - 1, by simp at hf; omega⟩
    unfold loopP items
    rw [List.append_nil]; rfl
  | j :: l, f, first, js, rest, hv, hf => by
    obtain ⟨f, rfl⟩ : ∃ g, f = g + 1 := ⟨f - 1, by simp at hf; omega⟩
    obtain ⟨n1, n2⟩ := items_next l rest
    have hj := hv j (by simp) (items false l ++ 93 :: rest) n1
    have hs : (render j ++ items false l) ++ 93 :: rest = render j ++ (items false l ++ 93 :: rest) := List.append_assoc _ _ _
    have rec' := list_rt v l f false (js ++ [j]) rest (fun c hc => hv c (by simp [hc])) (by simpa using hf)
    have go : ∀ S1, S1 = render j ++ (items false l ++ 93 :: rest) → (keyP false ([] : List LB) S1).bind (fun q => (v q.2).bind fun r => loopP v false f false q.1 (js ++ [r.1]) (whiteP r.2)) = some (([], js ++ j :: l), rest) := fun S1 e => by
      subst e
      show (v (render j ++ (items false l ++ 93 :: rest))).bind _ = _
      rw [hj, Option.bind_some, n2, rec', app_snoc js j l]
    obtain ⟨c, m, h1, h2, h3, h4⟩ := render_head j
    unfold loopP items
    cases first
    · show (bif ieq (44 : Int) 93 then _ else (sepP false (44 :: ((render j ++ items false l) ++ 93 :: rest))).bind _) = _
      have e1 : sepP false (44 :: ((render j ++ items false l) ++ 93 :: rest)) = some (render j ++ (items false l ++ 93 :: rest)) := by
        show some (whiteP ((render j ++ items false l) ++ 93 :: rest)) = _
        rw [hs, white_render]
      rw [e1, Option.bind_some]
      exact go _ rfl
    · have e0 : ieq (headP (([] ++ (render j ++ items false l)) ++ 93 :: rest)) (bif false then 125 else 93) = false := by
        rw [h1]; exact h3
      show (bif ieq (headP (([] ++ (render j ++ items false l)) ++ 93 :: rest)) (bif false then 125 else 93) then _ else (sepP true (([] ++ (render j ++ items false l)) ++ 93 :: rest)).bind _) = _
      rw [e0, cond_false]
      have e1 : sepP true (([] ++ (render j ++ items false l)) ++ 93 :: rest) = some (([] ++ (render j ++ items false l)) ++ 93 :: rest) := rfl
      rw [e1, Option.bind_some]
      exact go _ hs
theorem obj_rt (v : LB → Option (J × LB)) : ∀ (l : List J) (kr : List LB) (f : Nat) (first : Bool) (ks : List LB) (js : List J) (rest : LB), (∀ j ∈ l, ∀ rest, okRest rest → v (render j ++ rest) = some (j, rest)) → kr.length = l.length → (∀ x ∈ kr, validP x = true) → (ks ++ kr).Nodup → l.length < f →
    loopP v true f first ks js (members first kr l ++ 125 :: rest) = some ((ks ++ kr, js ++ l), rest)
  | [], kr, f, first, ks, js, rest, hv, hl, hk, hn, hf => by
    obtain ⟨f, rfl⟩ : ∃ g, f = g + 1 := ⟨f - 1, by simp at hf; omega⟩
    have : kr = [] := List.eq_nil_of_length_eq_zero (by simpa using hl)
    subst this
    unfold loopP members
    rw [List.append_nil, List.append_nil]; rfl
  | j :: l, [], f, first, ks, js, rest, hv, hl, hk, hn, hf => by simp at hl
  | j :: l, x :: kr, f, first, ks, js, rest, hv, hl, hk, hn, hf => by
    obtain ⟨f, rfl⟩ : ∃ g, f = g + 1 := ⟨f - 1, by simp at hf; omega⟩
    obtain ⟨n1, n2⟩ := members_next kr l rest
    have hj := hv j (by simp) (members false kr l ++ 125 :: rest) n1
    have hs : ((quoteP x ++ [58]) ++ (render j ++ members false kr l)) ++ 125 :: rest = quoteP x ++ 58 :: (render j ++ (members false kr l ++ 125 :: rest)) := by simp
    have hn' : ((ks ++ [x]) ++ kr).Nodup := by rw [← app_snoc]; exact hn
    have rec' := obj_rt v l kr f false (ks ++ [x]) (js ++ [j]) rest (fun c hc => hv c (by simp [hc])) (by simpa using hl) (fun y hy => hk y (by simp [hy])) hn' (by simpa using hf)
    have hnc : ks.contains x = false := by
      have : x ∉ ks := fun hx => by
        rw [List.nodup_append] at hn
        exact hn.2.2 x hx x (by simp) rfl
      simpa using this
    have go : ∀ S1, S1 = quoteP x ++ 58 :: (render j ++ (members false kr l ++ 125 :: rest)) → (keyP true ks S1).bind (fun q => (v q.2).bind fun r => loopP v true f false q.1 (js ++ [r.1]) (whiteP r.2)) = some ((ks ++ x :: kr, js ++ j :: l), rest) := fun S1 e => by
      subst e
      have ek : keyP true ks (quoteP x ++ 58 :: (render j ++ (members false kr l ++ 125 :: rest))) = some (ks ++ [x], render j ++ (members false kr l ++ 125 :: rest)) := by
        unfold keyP
        rw [cond_true, text_rt x (hk x (by simp)), Option.bind_some, hnc, cond_false]
        have : takeP 58 (whiteP (58 :: (render j ++ (members false kr l ++ 125 :: rest)))) = some (render j ++ (members false kr l ++ 125 :: rest)) := by
          rw [white_head (c := 58) rfl]; rfl
        rw [this, Option.map_some, white_render]
      rw [ek, Option.bind_some]
      show (v (render j ++ (members false kr l ++ 125 :: rest))).bind _ = _
      rw [hj, Option.bind_some, n2, rec', ← app_snoc, ← app_snoc]
    unfold loopP members
    cases first
    · show (bif ieq (44 : Int) 125 then _ else (sepP false (44 :: (((quoteP x ++ [58]) ++ (render j ++ members false kr l)) ++ 125 :: rest))).bind _) = _
      have e1 : sepP false (44 :: (((quoteP x ++ [58]) ++ (render j ++ members false kr l)) ++ 125 :: rest)) = some (quoteP x ++ 58 :: (render j ++ (members false kr l ++ 125 :: rest))) := by
        show some (whiteP (((quoteP x ++ [58]) ++ (render j ++ members false kr l)) ++ 125 :: rest)) = _
        rw [hs]
        unfold quoteP
        rw [List.cons_append, white_head (c := 34) rfl]
      rw [e1, Option.bind_some]
      exact go _ rfl
    · show (bif ieq (34 : Int) 125 then _ else (sepP true (((quoteP x ++ [58]) ++ (render j ++ members false kr l)) ++ 125 :: rest)).bind _) = _
      exact go _ hs
theorem word_rt (w rest : LB) : wordP w (w ++ rest) = some rest := by
  induction w with
  | nil => rfl
  | cons a w ih =>
    unfold wordP
    rw [List.cons_append, takeP_cons]
    have : ieq (a.toNat : Int) (a.toNat : Int) = true := by simp [ieq]
    rw [this]
    exact ih
theorem scalar_rt (j : J) (inner : Bool → Option (J × LB)) (rest : LB) (hr : okRest rest) (hi : ∀ n, j = .int n → intOK n = true) (ht : ∀ s, j = .text s → validP s = true) : (∃ l, j = .list l ∧ scalarP (render j ++ rest) inner = inner false) ∨ (∃ ks l, j = .obj ks l ∧ scalarP (render j ++ rest) inner = inner true) ∨ scalarP (render j ++ rest) inner = some (j, rest) := by
  cases j with
  | null =>
    refine .inr (.inr ?_)
    show (wordP [110, 117, 108, 108] ([110, 117, 108, 108] ++ rest)).map _ = _
    rw [word_rt]; rfl
  | bool b =>
    refine .inr (.inr ?_)
    cases b
    · have : render (.bool false) = [102, 97, 108, 115, 101] := by kernel_rfl
      rw [this]
      show (wordP [102, 97, 108, 115, 101] ([102, 97, 108, 115, 101] ++ rest)).map _ = _
      rw [word_rt]; rfl
    · have : render (.bool true) = [116, 114, 117, 101] := by kernel_rfl
      rw [this]
      show (wordP [116, 114, 117, 101] ([116, 114, 117, 101] ++ rest)).map _ = _
      rw [word_rt]; rfl
  | int n =>
    refine .inr (.inr ?_)
    obtain ⟨c, l, h, hc⟩ := itoa_head n
    have hnum := number_rt n (hi n rfl) rest hr
    have hcs : ieq (c.toNat : Int) 110 = false ∧ ieq (c.toNat : Int) 116 = false ∧ ieq (c.toNat : Int) 102 = false ∧ ieq (c.toNat : Int) 34 = false ∧ ieq (c.toNat : Int) 91 = false ∧ ieq (c.toNat : Int) 123 = false := by
      rcases hc with rfl | ⟨h1, h2⟩
      · exact ⟨rfl, rfl, rfl, rfl, rfl, rfl⟩
      · have := byte_all (P := fun c => 48 ≤ c.toNat → c.toNat ≤ 57 → ieq (c.toNat : Int) 110 = false ∧ ieq (c.toNat : Int) 116 = false ∧ ieq (c.toNat : Int) 102 = false ∧ ieq (c.toNat : Int) 34 = false ∧ ieq (c.toNat : Int) 91 = false ∧ ieq (c.toNat : Int) 123 = false) (by decide +kernel) c
        exact this h1 h2
    obtain ⟨c1, c2, c3, c4, c5, c6⟩ := hcs
    have er : render (.int n) = Lib.itoa n := by unfold render; rfl
    have eh : headP (Lib.itoa n ++ rest) = (c.toNat : Int) := by rw [h]; rfl
    unfold scalarP
    rw [er, eh, c1, c2, c3, c4, c5, c6, hnum]
    rfl
  | text s =>
    refine .inr (.inr ?_)
    have er : render (.text s) = quoteP s := by unfold render; rfl
    have h := text_rt s (ht s rfl) rest
    rw [er]
    show (textP (quoteP s ++ rest)).map _ = _
    rw [h]; rfl
  | list l => exact .inl ⟨l, rfl, by unfold render; rfl⟩
  | obj ks l => exact .inr (.inl ⟨ks, l, rfl, by unfold render; rfl⟩)
theorem value_rt (k : Nat) : ∀ (d : Nat) (j : J), good k d j → ∀ rest, okRest rest → valueP d (render j ++ rest) = some (j, rest)
  | d, j, hg, rest, hr => by
    have hi : ∀ n, j = .int n → intOK n = true := fun n e => by subst e; cases d <;> (unfold good at hg; exact hg)
    have ht : ∀ s, j = .text s → validP s = true := fun s e => by subst e; cases d <;> (unfold good at hg; exact hg.1)
    cases d with
    | zero =>
      rcases scalar_rt j (fun _ => none) rest hr hi ht with ⟨l, rfl, h⟩ | ⟨ks, l, rfl, h⟩ | h
      · unfold good at hg; exact absurd hg.1 (by omega)
      · unfold good at hg; exact absurd hg.1 (by omega)
      · exact h
    | succ d =>
      rcases scalar_rt j (fun b => innerP' (valueP d) b (render j ++ rest)) rest hr hi ht with ⟨l, rfl, h⟩ | ⟨ks, l, rfl, h⟩ | h
      · refine (show _ = _ from h).trans ?_
        unfold good at hg
        have hrec : ∀ j ∈ l, ∀ rest, okRest rest → valueP d (render j ++ rest) = some (j, rest) := fun j hj rest hr => value_rt k d j (goodL_mem hg.2.2 j hj) rest hr
        have es : render (.list l) ++ rest = 91 :: (items true l ++ 93 :: rest) := by unfold render; simp
        unfold innerP'
        rw [es]
        have ew : whiteP ((91 :: (items true l ++ 93 :: rest)).drop 1) = items true l ++ 93 :: rest := by
          show whiteP (items true l ++ 93 :: rest) = _
          cases l with
          | nil => unfold items; exact white_head (c := 93) rfl
          | cons j l =>
            unfold items
            show whiteP ((render j ++ items false l) ++ 93 :: rest) = (render j ++ items false l) ++ 93 :: rest
            rw [List.append_assoc, white_render]
        rw [ew, list_rt (valueP d) l _ true [] rest hrec (by have := items_pos true l; simp; omega)]
        rfl
      · refine (show _ = _ from h).trans ?_
        unfold good at hg
        obtain ⟨g1, g2, g3, g4, g5, g6⟩ := hg
        have hrec : ∀ j ∈ l, ∀ rest, okRest rest → valueP d (render j ++ rest) = some (j, rest) := fun j hj rest hr => value_rt k d j (goodL_mem g6 j hj) rest hr
        have es : render (.obj ks l) ++ rest = 123 :: (members true ks l ++ 125 :: rest) := by unfold render; simp
        unfold innerP'
        rw [es]
        have ew : whiteP ((123 :: (members true ks l ++ 125 :: rest)).drop 1) = members true ks l ++ 125 :: rest := by
          show whiteP (members true ks l ++ 125 :: rest) = _
          cases l with
          | nil => unfold members; exact white_head (c := 125) rfl
          | cons j l => unfold members quoteP; exact white_head (c := 34) rfl
        rw [ew, obj_rt (valueP d) l ks _ true [] [] rest hrec g2 (fun x hx => (g5 x hx).1) (by simpa using g4) (by have := members_pos true ks l; simp; omega)]
        rfl
      · exact h
theorem parse_rt (k : Nat) (L : List J) (hg : ∀ j ∈ L, good k 15 j) (hl : L.length < k) (hb : (putP L).length ≤ 65536) : parseP (putP L) = some (.list L) := by
  have hv := value_rt k 16 (.list L) (good_list hl hg) [] rfl
  rw [List.append_nil] at hv
  unfold parseP
  have hw : whiteP (putP L) = putP L := by
    have := white_render (.list L) []
    rw [List.append_nil] at this; exact this
  rw [Nat.ble_eq_true_of_le hb, hw, cond_true]
  show (valueP 16 (render (.list L))).bind _ = _
  rw [hv, Option.bind_some]
  have : ieq (at_ (putP L) (whiteP [])) (slen (putP L)) = true := by
    show ieq (at_ (putP L) []) _ = true
    rw [at_end]; simp [ieq]
  rw [this]; rfl
end Go.AI

/-
  PLAIN LAWS: an action that was written is read again; what is read is the same.
-/
set_option maxRecDepth 100000
set_option linter.unusedVariables false
set_option linter.unusedSimpArgs false
namespace Go.AI
open Go.Proofs

def nVal (r : List AV) : List AV := [.i .i64 (toI (lget r 0 .unk)), .i .i64 (toI (lget r 1 .unk)), .b (toB (lget r 2 .unk)), .s (toS (lget r 3 .unk))]
def nStat (r : List AV) : List AV := [.i .i64 (toI (lget r 0 .unk)), .i .i64 (toI (lget r 1 .unk)), .i .i64 (toI (lget r 2 .unk)), .i .i64 (toI (lget r 3 .unk)), .b (toB (lget r 4 .unk)), .s (toS (lget r 5 .unk)), .i .i64 (toI (lget r 6 .unk)), .i .i64 (toI (lget r 7 .unk)), .b (toB (lget r 8 .unk)), .s (toS (lget r 9 .unk))]
def nCol (r : List AV) : List AV := [.i .i64 (toI (lget r 0 .unk)), .s (toS (lget r 1 .unk)), .i .i64 (toI (lget r 2 .unk))]
def nField (r : List AV) : List AV := [.i .i64 (toI (lget r 0 .unk)), .i .i64 (toI (lget r 1 .unk)), .i .i64 (toI (lget r 2 .unk))]
def nRow (r : List AV) : List AV := mkRow (toI (lget r 0 .unk)) (toS (lget r 1 .unk)) (toI (lget r 2 .unk)) (toI (lget r 3 .unk)) ((toR (lget r 4 .unk)).map nVal) ((toR (lget r 5 .unk)).map nStat) (toS (lget r 6 .unk)) (toS (lget r 7 .unk)) (toS (lget r 8 .unk)) (toI (lget r 9 .unk)) (toI (lget r 10 .unk)) ((toR (lget r 11 .unk)).map nCol) (toI (lget r 12 .unk)) (toI (lget r 13 .unk)) ((toR (lget r 14 .unk)).map nField) (toS (lget r 15 .unk)) (toI (lget r 16 .unk)) (toI (lget r 17 .unk)) (toI (lget r 18 .unk)) (toI (lget r 19 .unk))
theorem ieq_self (a : Int) : ieq a a = true := by simp [ieq]
theorem seq_self (a : LB) : seq a a = true := by simp [seq]
theorem beqB_self (a : Bool) : beqB a a = true := by cases a <;> rfl
theorem rdVal_back {x0 x1 : Int} {x2 : Bool} {x3 : LB} (h : valueB x0 x1 x2 x3 = true) (b : Bool) : rdVal (scalarJ x0 x1 x2 x3) b = (x0, x1, x2, x3, b) := by
  rcases valueB_imp h with ⟨rfl, rfl, rfl, rfl⟩ | ⟨rfl, rfl, rfl⟩ | ⟨rfl, rfl, rfl⟩ | ⟨rfl, rfl, rfl, _⟩ <;> rfl
theorem valOut_back {r : List AV} (h : valRow r = true) : valOut (valJ r) false = (nVal r, false) := by
  have := rdVal_back h false
  unfold valOut valJ nVal
  rw [this]
theorem num1 (ps : List (LB × J)) (ky : LB) (n : Int) (h : rdAt (objJ ps) ky false = (.int n, false)) : rdNum (objJ ps) ky false = (n, false) := by
  unfold rdNum; rw [h]; rfl
theorem text1 (ps : List (LB × J)) (ky : LB) (s : LB) (h : rdAt (objJ ps) ky false = (.text s, false)) : rdText (objJ ps) ky false = (s, false) := by
  unfold rdText; rw [h]; rfl
theorem list1 (ps : List (LB × J)) (ky : LB) (l : List J) (h : rdAt (objJ ps) ky false = (.list l, false)) : rdList (objJ ps) ky false = (l, false) := by
  unfold rdList; rw [h]; rfl
theorem colOut_back (r : List AV) : colOut (colJ r) false = (nCol r, false) := by
  unfold colOut colJ nCol
  have h1 := num1 (colPs (toI (lget r 0 .unk)) (toS (lget r 1 .unk)) (toI (lget r 2 .unk))) [105, 100] _ rfl
  have h2 := text1 (colPs (toI (lget r 0 .unk)) (toS (lget r 1 .unk)) (toI (lget r 2 .unk))) [110, 97, 109, 101] _ rfl
  have h3 := num1 (colPs (toI (lget r 0 .unk)) (toS (lget r 1 .unk)) (toI (lget r 2 .unk))) [107, 105, 110, 100] _ rfl
  simp only [h1, h2, h3]
theorem fieldOut_back (r : List AV) : fieldOut (fieldJ r) false = (nField r, false) := by
  unfold fieldOut fieldJ nField
  have h1 := num1 (fieldPs (toI (lget r 0 .unk)) (toI (lget r 1 .unk)) (toI (lget r 2 .unk))) [115, 111, 117, 114, 99, 101] _ rfl
  have h2 := num1 (fieldPs (toI (lget r 0 .unk)) (toI (lget r 1 .unk)) (toI (lget r 2 .unk))) [116, 114, 97, 110, 115] _ rfl
  have h3 := num1 (fieldPs (toI (lget r 0 .unk)) (toI (lget r 1 .unk)) (toI (lget r 2 .unk))) [112, 97, 114, 97, 109] _ rfl
  simp only [h1, h2, h3]
theorem statOut_back {r : List AV} (h3 : valueB (toI (lget r 2 .unk)) (toI (lget r 3 .unk)) (toB (lget r 4 .unk)) (toS (lget r 5 .unk)) = true) (h4 : valueB (toI (lget r 6 .unk)) (toI (lget r 7 .unk)) (toB (lget r 8 .unk)) (toS (lget r 9 .unk)) = true) : statOut (statJ r) false = (nStat r, false) := by
  unfold statOut statJ nStat
  generalize e2 : toI (lget r 2 .unk) = x2 at *
  generalize e3 : toI (lget r 3 .unk) = x3 at *
  generalize e4 : toB (lget r 4 .unk) = x4 at *
  generalize e5 : toS (lget r 5 .unk) = x5 at *
  generalize e6 : toI (lget r 6 .unk) = x6 at *
  generalize e7 : toI (lget r 7 .unk) = x7 at *
  generalize e8 : toB (lget r 8 .unk) = x8 at *
  generalize e9 : toS (lget r 9 .unk) = x9 at *
  have g1 := num1 (statPs (toI (lget r 0 .unk)) (toI (lget r 1 .unk)) x2 x3 x4 x5 x6 x7 x8 x9) [99, 111, 108] _ rfl
  have g2 := num1 (statPs (toI (lget r 0 .unk)) (toI (lget r 1 .unk)) x2 x3 x4 x5 x6 x7 x8 x9) [110, 117, 108, 108, 115] _ rfl
  have g3 : rdAt (objJ (statPs (toI (lget r 0 .unk)) (toI (lget r 1 .unk)) x2 x3 x4 x5 x6 x7 x8 x9)) [109, 105, 110] false = (scalarJ x2 x3 x4 x5, false) := rfl
  have g4 : rdAt (objJ (statPs (toI (lget r 0 .unk)) (toI (lget r 1 .unk)) x2 x3 x4 x5 x6 x7 x8 x9)) [109, 97, 120] false = (scalarJ x6 x7 x8 x9, false) := rfl
  simp only [g1, g2, g3, g4, rdVal_back h3, rdVal_back h4]
theorem foldO_back {o : J → Bool → List AV × Bool} {m : List AV → J} {n : List AV → List AV} : ∀ (l : LR), (∀ r ∈ l, o (m r) false = (n r, false)) → foldO o (l.map m) false = (l.map n, false)
  | [], _ => rfl
  | r :: l, h => by
    have h1 := h r (by simp)
    have h2 := foldO_back l (fun q hq => h q (by simp [hq]))
    simp only [List.map_cons, foldO, h1, h2]
theorem nil_of {l : LR} (h : l.length = ([] : LR).length) : l = [] := List.eq_nil_of_length_eq_zero h
theorem mayA_back (x0 : Int) (x1 : LB) (x2 : Int) (x3 : Int) (x4 : LR) (x5 : LR) (x6 : LB) (x7 : LB) (x8 : LB) (x9 : Int) (x10 : Int) (x11 : LR) (x12 : Int) (x13 : Int) (x14 : LR) (x15 : LB) (x16 : Int) (x17 : Int) (x18 : Int) (x19 : Int) (h : mayA x0 x1 x2 x3 x4 x5 x6 x7 x8 x9 x10 x11 x12 x13 x14 x15 x16 x17 x18 x19 = true) : rowOut (objJ (onePs x0 x1 x2 x3 x4 x5 x6 x7 x8 x9 x10 x11 x12 x13 x14 x15 x16 x17 x18 x19)) false = (mkRow x0 x1 x2 x3 (x4.map nVal) (x5.map nStat) x6 x7 x8 x9 x10 (x11.map nCol) x12 x13 (x14.map nField) x15 x16 x17 x18 x19, false) := by
  rcases mayA_cases x0 x1 x2 x3 x4 x5 x6 x7 x8 x9 x10 x11 x12 x13 x14 x15 x16 x17 x18 x19 h with ⟨rfl, hf, hb⟩ | ⟨rfl, hf, hb⟩ | ⟨rfl, hf, hb⟩ | ⟨rfl, hf, hb⟩ | ⟨rfl, hf, hb⟩ | ⟨rfl, hf, hb⟩ | ⟨rfl, hf, hb⟩
  · obtain ⟨_, _, _, _, _, rfl, rfl, l11, rfl, l14, rfl, rfl, rfl, rfl, rfl, rfl, rfl, rfl, rfl⟩ := bareB_imp _ _ _ _ _ _ _ _ _ _ _ _ _ _ _ _ _ _ _ _ _ _ _ _ _ _ _ _ _ _ _ _ _ _ _ _ _ _ _ _ hb
    obtain rfl := nil_of l11
    obtain rfl := nil_of l14
    obtain ⟨_, _, _, _, _, hv, hs⟩ := fileB_imp hf
    have hs' := statsB_mem hs
    have g1 := text1 [([112, 97, 116, 104], .text x1), ([114, 111, 119, 115], .int x2), ([115, 112, 101, 99], .int x3), ([112, 97, 114, 116], .list (x4.map valJ)), ([115, 116, 97, 116, 115], .list (x5.map statJ))] [112, 97, 116, 104] _ rfl
    have g2 := num1 [([112, 97, 116, 104], .text x1), ([114, 111, 119, 115], .int x2), ([115, 112, 101, 99], .int x3), ([112, 97, 114, 116], .list (x4.map valJ)), ([115, 116, 97, 116, 115], .list (x5.map statJ))] [114, 111, 119, 115] _ rfl
    have g3 := num1 [([112, 97, 116, 104], .text x1), ([114, 111, 119, 115], .int x2), ([115, 112, 101, 99], .int x3), ([112, 97, 114, 116], .list (x4.map valJ)), ([115, 116, 97, 116, 115], .list (x5.map statJ))] [115, 112, 101, 99] _ rfl
    have g4 := list1 [([112, 97, 116, 104], .text x1), ([114, 111, 119, 115], .int x2), ([115, 112, 101, 99], .int x3), ([112, 97, 114, 116], .list (x4.map valJ)), ([115, 116, 97, 116, 115], .list (x5.map statJ))] [112, 97, 114, 116] _ rfl
    have g5 := list1 [([112, 97, 116, 104], .text x1), ([114, 111, 119, 115], .int x2), ([115, 112, 101, 99], .int x3), ([112, 97, 114, 116], .list (x4.map valJ)), ([115, 116, 97, 116, 115], .list (x5.map statJ))] [115, 116, 97, 116, 115] _ rfl
    have g6 := foldO_back (o := valOut) (m := valJ) (n := nVal) x4 (fun r hr => valOut_back (hv r hr))
    have g7 := foldO_back (o := statOut) (m := statJ) (n := nStat) x5 (fun r hr => statOut_back (hs' r hr).2.1 (hs' r hr).2.2)
    show addOut (objJ [([112, 97, 116, 104], .text x1), ([114, 111, 119, 115], .int x2), ([115, 112, 101, 99], .int x3), ([112, 97, 114, 116], .list (x4.map valJ)), ([115, 116, 97, 116, 115], .list (x5.map statJ))]) false = _
    simp only [addOut, g1, g2, g3, g4, g5, g6, g7]
    rfl
  · obtain ⟨rfl, rfl, rfl, l4, l5, rfl, rfl, l11, rfl, l14, _, rfl, rfl, rfl, rfl, rfl, rfl, rfl, rfl⟩ := bareB_imp _ _ _ _ _ _ _ _ _ _ _ _ _ _ _ _ _ _ _ _ _ _ _ _ _ _ _ _ _ _ _ _ _ _ _ _ _ _ _ _ hb
    obtain rfl := nil_of l4
    obtain rfl := nil_of l5
    obtain rfl := nil_of l11
    obtain rfl := nil_of l14
    rfl
  · obtain ⟨rfl, rfl, rfl, l4, l5, rfl, rfl, l11, rfl, l14, rfl, _, _, _, rfl, rfl, rfl, rfl, rfl⟩ := bareB_imp _ _ _ _ _ _ _ _ _ _ _ _ _ _ _ _ _ _ _ _ _ _ _ _ _ _ _ _ _ _ _ _ _ _ _ _ _ _ _ _ hb
    obtain rfl := nil_of l4
    obtain rfl := nil_of l5
    obtain rfl := nil_of l11
    obtain rfl := nil_of l14
    have g1 := text1 [([112, 97, 116, 104], .text x7), ([102, 105, 108, 101], .text x8), ([114, 111, 119, 115], .int x9)] [112, 97, 116, 104] _ rfl
    have g2 := text1 [([112, 97, 116, 104], .text x7), ([102, 105, 108, 101], .text x8), ([114, 111, 119, 115], .int x9)] [102, 105, 108, 101] _ rfl
    have g3 := num1 [([112, 97, 116, 104], .text x7), ([102, 105, 108, 101], .text x8), ([114, 111, 119, 115], .int x9)] [114, 111, 119, 115] _ rfl
    show markOut (objJ [([112, 97, 116, 104], .text x7), ([102, 105, 108, 101], .text x8), ([114, 111, 119, 115], .int x9)]) false = _
    simp only [markOut, g1, g2, g3]
    rfl
  · obtain ⟨rfl, rfl, rfl, l4, l5, _, _, _, rfl, l14, rfl, rfl, rfl, rfl, rfl, rfl, rfl, rfl, rfl⟩ := bareB_imp _ _ _ _ _ _ _ _ _ _ _ _ _ _ _ _ _ _ _ _ _ _ _ _ _ _ _ _ _ _ _ _ _ _ _ _ _ _ _ _ hb
    obtain rfl := nil_of l4
    obtain rfl := nil_of l5
    obtain rfl := nil_of l14
    have g1 := num1 [([105, 100], .int x10), ([110, 101, 120, 116], .int x12), ([99, 111, 108, 117, 109, 110, 115], .list (x11.map colJ))] [105, 100] _ rfl
    have g2 := num1 [([105, 100], .int x10), ([110, 101, 120, 116], .int x12), ([99, 111, 108, 117, 109, 110, 115], .list (x11.map colJ))] [110, 101, 120, 116] _ rfl
    have g3 := list1 [([105, 100], .int x10), ([110, 101, 120, 116], .int x12), ([99, 111, 108, 117, 109, 110, 115], .list (x11.map colJ))] [99, 111, 108, 117, 109, 110, 115] _ rfl
    have g4 := foldO_back (o := colOut) (m := colJ) (n := nCol) x11 (fun r hr => colOut_back r)
    show schemaOut (objJ [([105, 100], .int x10), ([110, 101, 120, 116], .int x12), ([99, 111, 108, 117, 109, 110, 115], .list (x11.map colJ))]) false = _
    simp only [schemaOut, g1, g2, g3, g4]
    rfl
  · obtain ⟨rfl, rfl, rfl, l4, l5, rfl, rfl, l11, _, _, rfl, rfl, rfl, rfl, rfl, rfl, rfl, rfl, rfl⟩ := bareB_imp _ _ _ _ _ _ _ _ _ _ _ _ _ _ _ _ _ _ _ _ _ _ _ _ _ _ _ _ _ _ _ _ _ _ _ _ _ _ _ _ hb
    obtain rfl := nil_of l4
    obtain rfl := nil_of l5
    obtain rfl := nil_of l11
    have g1 := num1 [([105, 100], .int x13), ([102, 105, 101, 108, 100, 115], .list (x14.map fieldJ))] [105, 100] _ rfl
    have g3 := list1 [([105, 100], .int x13), ([102, 105, 101, 108, 100, 115], .list (x14.map fieldJ))] [102, 105, 101, 108, 100, 115] _ rfl
    have g4 := foldO_back (o := fieldOut) (m := fieldJ) (n := nField) x14 (fun r hr => fieldOut_back r)
    show specOut (objJ [([105, 100], .int x13), ([102, 105, 101, 108, 100, 115], .list (x14.map fieldJ))]) false = _
    simp only [specOut, g1, g3, g4]
    rfl
  · obtain ⟨rfl, rfl, rfl, l4, l5, rfl, rfl, l11, rfl, l14, rfl, rfl, rfl, rfl, _, rfl, rfl, rfl, rfl⟩ := bareB_imp _ _ _ _ _ _ _ _ _ _ _ _ _ _ _ _ _ _ _ _ _ _ _ _ _ _ _ _ _ _ _ _ _ _ _ _ _ _ _ _ hb
    obtain rfl := nil_of l4
    obtain rfl := nil_of l5
    obtain rfl := nil_of l11
    obtain rfl := nil_of l14
    rfl
  · obtain ⟨rfl, rfl, rfl, l4, l5, rfl, rfl, l11, rfl, l14, rfl, rfl, rfl, rfl, rfl, _, _, _, _⟩ := bareB_imp _ _ _ _ _ _ _ _ _ _ _ _ _ _ _ _ _ _ _ _ _ _ _ _ _ _ _ _ _ _ _ _ _ _ _ _ _ _ _ _ hb
    obtain rfl := nil_of l4
    obtain rfl := nil_of l5
    obtain rfl := nil_of l11
    obtain rfl := nil_of l14
    have g1 := num1 [([99, 108, 105, 101, 110, 116], .int x16), ([115, 101, 113], .int x17), ([111, 112], .int x18), ([116, 105, 109, 101], .int x19)] [99, 108, 105, 101, 110, 116] _ rfl
    have g2 := num1 [([99, 108, 105, 101, 110, 116], .int x16), ([115, 101, 113], .int x17), ([111, 112], .int x18), ([116, 105, 109, 101], .int x19)] [115, 101, 113] _ rfl
    have g3 := num1 [([99, 108, 105, 101, 110, 116], .int x16), ([115, 101, 113], .int x17), ([111, 112], .int x18), ([116, 105, 109, 101], .int x19)] [111, 112] _ rfl
    have g4 := num1 [([99, 108, 105, 101, 110, 116], .int x16), ([115, 101, 113], .int x17), ([111, 112], .int x18), ([116, 105, 109, 101], .int x19)] [116, 105, 109, 101] _ rfl
    show infoOut (objJ [([99, 108, 105, 101, 110, 116], .int x16), ([115, 101, 113], .int x17), ([111, 112], .int x18), ([116, 105, 109, 101], .int x19)]) false = _
    simp only [infoOut, g1, g2, g3, g4]
    rfl
theorem action_back {r : List AV} (h : mayRow r = true) : rowOut (oneJ r) false = (nRow r, false) := mayA_back _ _ _ _ _ _ _ _ _ _ _ _ _ _ _ _ _ _ _ _ h
/-- what was written is read again -/
theorem get_back (k : Nat) (hk : 100 ≤ k) (x : LR) (hx : x.length < k) (hw : ∀ r ∈ x, wfRow r) (h : putOK x = true) : readP (putT x) = some (x.map nRow, false) := by
  have h' := h
  unfold putOK at h'
  rw [Bool.and_eq_true, List.all_eq_true] at h'
  unfold putT readP
  rw [h, cond_true, parse_rt k (x.map oneJ) (fun j hj => by
    obtain ⟨r, hr, rfl⟩ := List.mem_map.1 hj
    exact (mayRow_good hk (h'.1 r hr) (hw r hr)).1) (by simpa using hx) (Nat.le_of_ble_eq_true h'.2)]
  show some (foldO rowOut (x.map oneJ) false) = _
  rw [foldO_back (o := rowOut) (m := oneJ) (n := nRow) x (fun r hr => action_back (h'.1 r hr))]

/-! ### the same -/
theorem ilt_map {m : List AV → List AV} (pre : LR) (c : List AV) (l : LR) : ilt (pre.length : Int) (rlen ((pre ++ c :: l).map m)) = true := by
  have := ilt_pre (pre.map m) (m c) (l.map m)
  rw [List.length_map] at this
  rw [List.map_append, List.map_cons]; exact this
theorem rget_map {m : List AV → List AV} (pre : LR) (c : List AV) (l : LR) : rget ((pre ++ c :: l).map m) (pre.length : Int) = m c := by
  have := rget_pre (pre.map m) (m c) (l.map m)
  rw [List.length_map] at this
  rw [List.map_append, List.map_cons]; exact this
theorem ilt_mend {m : List AV → List AV} (pre : LR) : ilt (pre.length : Int) (rlen ((pre ++ []).map m)) = false := by simp [ilt, rlen]
theorem run141 {α : Type} (k : Nat) (K : Bool → Option α) : ∀ (l : LR) (f : Nat) (pre : LR), l.length < f → (pre ++ l).length ≤ 1000000000000 → L141al0 k K ((pre ++ l).map nVal) (pre ++ l) f (pre.length : Int) = K true
  | [], f, pre, hf, hb => by
    obtain ⟨f, rfl⟩ : ∃ g, f = g + 1 := ⟨f - 1, by simp at hf; omega⟩
    simp only [L141al0, T141al0, ilt_mend, cond_false]
  | c :: l, f, pre, hf, hb => by
    obtain ⟨f, rfl⟩ : ∃ g, f = g + 1 := ⟨f - 1, by simp at hf; omega⟩
    have hl : (pre ++ c :: l).length = pre.length + (l.length + 1) := by simp
    simp only [L141al0, T141al0, h141a_1, ilt_map, ilt_pre, ile_pre, rget_map, rget_pre, cond_true, nVal, lget, toI, toB, toS, ieq_self, seq_self, beqB_self, Bool.and_self, Bool.not_true, cond_false, wadd_pre pre c (by omega)]
    rw [app_snoc pre c l]
    exact run141 k K l f (pre ++ [c]) (by simpa using hf) (by rw [← app_snoc]; exact hb)
theorem f141 {α : Type} (k : Nat) (x : LR) (hx : x.length < k) (hb : x.length ≤ 1000000000000) (K : Bool → Option α) : f141a k (x.map nVal) x K = K true := by
  unfold f141a T141a
  have : ine (rlen (x.map nVal)) (rlen x) = false := by simp [ine, rlen]
  rw [this]
  exact run141 k K x k [] hx hb
theorem run142 {α : Type} (k : Nat) (K : Bool → Option α) : ∀ (l : LR) (f : Nat) (pre : LR), l.length < f → (pre ++ l).length ≤ 1000000000000 → L142al0 k K ((pre ++ l).map nStat) (pre ++ l) f (pre.length : Int) = K true
  | [], f, pre, hf, hb => by
    obtain ⟨f, rfl⟩ : ∃ g, f = g + 1 := ⟨f - 1, by simp at hf; omega⟩
    simp only [L142al0, T142al0, ilt_mend, cond_false]
  | c :: l, f, pre, hf, hb => by
    obtain ⟨f, rfl⟩ : ∃ g, f = g + 1 := ⟨f - 1, by simp at hf; omega⟩
    have hl : (pre ++ c :: l).length = pre.length + (l.length + 1) := by simp
    simp only [L142al0, T142al0, h142a_5, h142a_3, h142a_4, ilt_map, ilt_pre, ile_pre, rget_map, rget_pre, cond_true, nStat, lget, toI, toB, toS, ieq_self, seq_self, beqB_self, Bool.and_self, Bool.not_true, cond_false, wadd_pre pre c (by omega)]
    rw [app_snoc pre c l]
    exact run142 k K l f (pre ++ [c]) (by simpa using hf) (by rw [← app_snoc]; exact hb)
theorem f142 {α : Type} (k : Nat) (x : LR) (hx : x.length < k) (hb : x.length ≤ 1000000000000) (K : Bool → Option α) : f142a k (x.map nStat) x K = K true := by
  unfold f142a T142a
  have : ine (rlen (x.map nStat)) (rlen x) = false := by simp [ine, rlen]
  rw [this]
  exact run142 k K x k [] hx hb
theorem run143 {α : Type} (k : Nat) (K : Bool → Option α) : ∀ (l : LR) (f : Nat) (pre : LR), l.length < f → (pre ++ l).length ≤ 1000000000000 → L143al0 k K ((pre ++ l).map nCol) (pre ++ l) f (pre.length : Int) = K true
  | [], f, pre, hf, hb => by
    obtain ⟨f, rfl⟩ : ∃ g, f = g + 1 := ⟨f - 1, by simp at hf; omega⟩
    simp only [L143al0, T143al0, ilt_mend, cond_false]
  | c :: l, f, pre, hf, hb => by
    obtain ⟨f, rfl⟩ : ∃ g, f = g + 1 := ⟨f - 1, by simp at hf; omega⟩
    have hl : (pre ++ c :: l).length = pre.length + (l.length + 1) := by simp
    simp only [L143al0, T143al0, h143a_1, ilt_map, ilt_pre, ile_pre, rget_map, rget_pre, cond_true, nCol, lget, toI, toB, toS, ieq_self, seq_self, beqB_self, Bool.and_self, Bool.not_true, cond_false, wadd_pre pre c (by omega)]
    rw [app_snoc pre c l]
    exact run143 k K l f (pre ++ [c]) (by simpa using hf) (by rw [← app_snoc]; exact hb)
theorem f143 {α : Type} (k : Nat) (x : LR) (hx : x.length < k) (hb : x.length ≤ 1000000000000) (K : Bool → Option α) : f143a k (x.map nCol) x K = K true := by
  unfold f143a T143a
  have : ine (rlen (x.map nCol)) (rlen x) = false := by simp [ine, rlen]
  rw [this]
  exact run143 k K x k [] hx hb
theorem run94 {α : Type} (k : Nat) (K : Bool → Option α) : ∀ (l : LR) (f : Nat) (pre : LR), l.length < f → (pre ++ l).length ≤ 1000000000000 → L94al0 k K ((pre ++ l).map nField) (pre ++ l) f (pre.length : Int) = K true
  | [], f, pre, hf, hb => by
    obtain ⟨f, rfl⟩ : ∃ g, f = g + 1 := ⟨f - 1, by simp at hf; omega⟩
    simp only [L94al0, T94al0, ilt_mend, cond_false]
  | c :: l, f, pre, hf, hb => by
    obtain ⟨f, rfl⟩ : ∃ g, f = g + 1 := ⟨f - 1, by simp at hf; omega⟩
    have hl : (pre ++ c :: l).length = pre.length + (l.length + 1) := by simp
    simp only [L94al0, T94al0, h94a_1, ilt_map, ilt_pre, ile_pre, rget_map, rget_pre, cond_true, nField, lget, toI, toB, toS, ieq_self, seq_self, beqB_self, Bool.and_self, Bool.not_true, cond_false, wadd_pre pre c (by omega)]
    rw [app_snoc pre c l]
    exact run94 k K l f (pre ++ [c]) (by simpa using hf) (by rw [← app_snoc]; exact hb)
theorem f94 {α : Type} (k : Nat) (x : LR) (hx : x.length < k) (hb : x.length ≤ 1000000000000) (K : Bool → Option α) : f94a k (x.map nField) x K = K true := by
  unfold f94a T94a
  have : ine (rlen (x.map nField)) (rlen x) = false := by simp [ine, rlen]
  rw [this]
  exact run94 k K x k [] hx hb
def shortA (k : Nat) (x4 x5 x11 x14 : LR) : Prop := x4.length < k ∧ x5.length < k ∧ x11.length < k ∧ x14.length < k
theorem f49 {α : Type} (k : Nat) (hk2 : k ≤ 1000000000000) (x0 : Int) (x1 : LB) (x2 : Int) (x3 : Int) (x4 : LR) (x5 : LR) (x6 : LB) (x7 : LB) (x8 : LB) (x9 : Int) (x10 : Int) (x11 : LR) (x12 : Int) (x13 : Int) (x14 : LR) (x15 : LB) (x16 : Int) (x17 : Int) (x18 : Int) (x19 : Int) (h : shortA k x4 x5 x11 x14) (K : Bool → Option α) : f49a k x0 x1 x2 x3 (x4.map nVal) (x5.map nStat) x6 x7 x8 x9 x10 (x11.map nCol) x12 x13 (x14.map nField) x15 x16 x17 x18 x19 x0 x1 x2 x3 x4 x5 x6 x7 x8 x9 x10 x11 x12 x13 x14 x15 x16 x17 x18 x19 K = K true := by
  obtain ⟨h4, h5, h11, h14⟩ := h
  unfold f49a T49a f92a T92a f93a T93a
  simp only [ieq_self, seq_self, cond_true, Bool.and_self, f141 k x4 h4 (by omega), f142 k x5 h5 (by omega), f143 k x11 h11 (by omega), f94 k x14 h14 (by omega)]
theorem run16 {α : Type} (k : Nat) (hk2 : k ≤ 1000000000000) (K : Bool → Option α) : ∀ (l : LR) (f : Nat) (pre : LR), (∀ r ∈ l, shortRow k r) → l.length < f → (pre ++ l).length ≤ 1000000000000 → L16al0 k K ((pre ++ l).map nRow) (pre ++ l) f (pre.length : Int) = K true
  | [], f, pre, hs, hf, hb => by
    obtain ⟨f, rfl⟩ : ∃ g, f = g + 1 := ⟨f - 1, by simp at hf; omega⟩
    simp only [L16al0, T16al0, ilt_mend, cond_false]
  | c :: l, f, pre, hs, hf, hb => by
    obtain ⟨f, rfl⟩ : ∃ g, f = g + 1 := ⟨f - 1, by simp at hf; omega⟩
    have hl : (pre ++ c :: l).length = pre.length + (l.length + 1) := by simp
    simp only [L16al0, T16al0, ilt_map, ilt_pre, ile_pre, rget_map, rget_pre, cond_true]
    refine (f49 k hk2 (toI (lget c 0 .unk)) (toS (lget c 1 .unk)) (toI (lget c 2 .unk)) (toI (lget c 3 .unk)) (toR (lget c 4 .unk)) (toR (lget c 5 .unk)) (toS (lget c 6 .unk)) (toS (lget c 7 .unk)) (toS (lget c 8 .unk)) (toI (lget c 9 .unk)) (toI (lget c 10 .unk)) (toR (lget c 11 .unk)) (toI (lget c 12 .unk)) (toI (lget c 13 .unk)) (toR (lget c 14 .unk)) (toS (lget c 15 .unk)) (toI (lget c 16 .unk)) (toI (lget c 17 .unk)) (toI (lget c 18 .unk)) (toI (lget c 19 .unk)) (hs c (by simp)) _).trans ?_
    simp only [Bool.not_true, cond_false, wadd_pre pre c (by omega)]
    rw [app_snoc pre c l]
    exact run16 k hk2 K l f (pre ++ [c]) (fun r hr => hs r (by simp [hr])) (by simpa using hf) (by rw [← app_snoc]; exact hb)
theorem f16 {α : Type} (k : Nat) (hk2 : k ≤ 1000000000000) (x : LR) (hs : ∀ r ∈ x, shortRow k r) (hx : x.length < k) (K : Bool → Option α) : f16a k (x.map nRow) x K = K true := by
  unfold f16a T16a
  have : ine (rlen (x.map nRow)) (rlen x) = false := by simp [ine, rlen]
  rw [this]
  exact run16 k hk2 K x k [] hs hx (by show x.length ≤ _; omega)
end Go.AI

/-
  PLAIN LAWS: ActionBack and ActionCuts.
-/
set_option maxRecDepth 100000
set_option linter.unusedVariables false
set_option linter.unusedSimpArgs false
namespace Go.AI
open Go.Proofs

theorem valRow_n (v : List AV) : valRow (nVal v) = valRow v := rfl
theorem fieldRow_n (v : List AV) : fieldRow (nField v) = fieldRow v := rfl
theorem all_n {p : List AV → Bool} {n : List AV → List AV} (h : ∀ v, p (n v) = p v) (l : LR) : (l.map n).all p = l.all p := by
  rw [List.all_map]; congr 1; funext v; exact h v
theorem statsB_n (x2 : Int) : ∀ (l : LR) (last : Int), statsB x2 last (l.map nStat) = statsB x2 last l
  | [], _ => rfl
  | r :: l, last => by
    have := statsB_n x2 l (toI (lget r 0 .unk))
    simp only [List.map_cons, statsB]
    show (bif ile (toI (lget r 0 .unk)) last then false else (bif inB (toI (lget r 1 .unk)) x2 then (bif valueB (toI (lget r 2 .unk)) (toI (lget r 3 .unk)) (toB (lget r 4 .unk)) (toS (lget r 5 .unk)) then (bif valueB (toI (lget r 6 .unk)) (toI (lget r 7 .unk)) (toB (lget r 8 .unk)) (toS (lget r 9 .unk)) then statsB x2 (toI (lget r 0 .unk)) (l.map nStat) else false) else false) else false)) = _
    rw [this]
theorem colRow_n (x2 : Int) (pre : LR) (r : List AV) : colRow x2 (pre.map nCol) (nCol r) = colRow x2 pre r := by
  unfold colRow
  rw [List.all_map]; rfl
theorem colsB_n (x2 : Int) : ∀ (l pre : LR), colsB x2 (pre.map nCol) (l.map nCol) = colsB x2 pre l
  | [], _ => rfl
  | r :: l, pre => by
    have := colsB_n x2 l (pre ++ [r])
    rw [List.map_append, List.map_cons, List.map_nil] at this
    simp only [List.map_cons, colsB, colRow_n, this]
theorem rlen_n {n : List AV → List AV} (l : LR) : rlen (l.map n) = rlen l := by simp [rlen]
theorem mayA_n (x0 : Int) (x1 : LB) (x2 : Int) (x3 : Int) (x4 : LR) (x5 : LR) (x6 : LB) (x7 : LB) (x8 : LB) (x9 : Int) (x10 : Int) (x11 : LR) (x12 : Int) (x13 : Int) (x14 : LR) (x15 : LB) (x16 : Int) (x17 : Int) (x18 : Int) (x19 : Int) : mayA x0 x1 x2 x3 (x4.map nVal) (x5.map nStat) x6 x7 x8 x9 x10 (x11.map nCol) x12 x13 (x14.map nField) x15 x16 x17 x18 x19 = mayA x0 x1 x2 x3 x4 x5 x6 x7 x8 x9 x10 x11 x12 x13 x14 x15 x16 x17 x18 x19 := by
  have h1 : fileB x1 x2 x3 (x4.map nVal) (x5.map nStat) = fileB x1 x2 x3 x4 x5 := by
    unfold fileB; rw [rlen_n, rlen_n, all_n valRow_n, statsB_n]
  have h2 : schemaB x10 (x11.map nCol) x12 = schemaB x10 x11 x12 := by
    unfold schemaB; rw [rlen_n]
    have := colsB_n x12 x11 []
    rw [List.map_nil] at this; rw [this]
  have h3 : specB x13 (x14.map nField) = specB x13 x14 := by
    unfold specB; rw [rlen_n, all_n fieldRow_n]
  unfold mayA
  rw [h1, h2, h3]
  simp only [bareB, List.length_map]
theorem mayRow_n (r : List AV) : mayRow (nRow r) = mayRow r := mayA_n (toI (lget r 0 .unk)) (toS (lget r 1 .unk)) (toI (lget r 2 .unk)) (toI (lget r 3 .unk)) (toR (lget r 4 .unk)) (toR (lget r 5 .unk)) (toS (lget r 6 .unk)) (toS (lget r 7 .unk)) (toS (lget r 8 .unk)) (toI (lget r 9 .unk)) (toI (lget r 10 .unk)) (toR (lget r 11 .unk)) (toI (lget r 12 .unk)) (toI (lget r 13 .unk)) (toR (lget r 14 .unk)) (toS (lget r 15 .unk)) (toI (lget r 16 .unk)) (toI (lget r 17 .unk)) (toI (lget r 18 .unk)) (toI (lget r 19 .unk))
theorem oneJ_n (r : List AV) : oneJ (nRow r) = oneJ r := by
  have h : ∀ (x0 : Int) (x1 : LB) (x2 : Int) (x3 : Int) (x4 : LR) (x5 : LR) (x6 : LB) (x7 : LB) (x8 : LB) (x9 : Int) (x10 : Int) (x11 : LR) (x12 : Int) (x13 : Int) (x14 : LR) (x15 : LB) (x16 : Int) (x17 : Int) (x18 : Int) (x19 : Int), onePs x0 x1 x2 x3 (x4.map nVal) (x5.map nStat) x6 x7 x8 x9 x10 (x11.map nCol) x12 x13 (x14.map nField) x15 x16 x17 x18 x19 = onePs x0 x1 x2 x3 x4 x5 x6 x7 x8 x9 x10 x11 x12 x13 x14 x15 x16 x17 x18 x19 := by
    intro x0 x1 x2 x3 x4 x5 x6 x7 x8 x9 x10 x11 x12 x13 x14 x15 x16 x17 x18 x19
    unfold onePs
    simp only [List.map_map]
    rfl
  exact congrArg objJ (h (toI (lget r 0 .unk)) (toS (lget r 1 .unk)) (toI (lget r 2 .unk)) (toI (lget r 3 .unk)) (toR (lget r 4 .unk)) (toR (lget r 5 .unk)) (toS (lget r 6 .unk)) (toS (lget r 7 .unk)) (toS (lget r 8 .unk)) (toI (lget r 9 .unk)) (toI (lget r 10 .unk)) (toR (lget r 11 .unk)) (toI (lget r 12 .unk)) (toI (lget r 13 .unk)) (toR (lget r 14 .unk)) (toS (lget r 15 .unk)) (toI (lget r 16 .unk)) (toI (lget r 17 .unk)) (toI (lget r 18 .unk)) (toI (lget r 19 .unk)))
theorem put_n (x : LR) : putOK (x.map nRow) = putOK x ∧ putT (x.map nRow) = putT x := by
  have h : putOK (x.map nRow) = putOK x := by
    unfold putOK
    rw [all_n mayRow_n, List.map_map]
    have : oneJ ∘ nRow = oneJ := funext oneJ_n
    rw [this]
  refine ⟨h, ?_⟩
  unfold putT
  rw [h, List.map_map]
  have : oneJ ∘ nRow = oneJ := funext oneJ_n
  rw [this]
/-- what was written is taken, and is the same -/
theorem get_of_put {x : LR} (hx : x.length < 1000000000000) (hw : ∀ r ∈ x, wfRow r) (h : putOK x = true) : getOK (putT x) = true ∧ getR (putT x) = x.map nRow := by
  have hb := get_back 1000000000000 (by omega) x hx hw h
  have e : getOK (putT x) = true := by
    unfold getOK
    rw [hb]
    show (bif false then false else bif putOK (x.map nRow) then seq (putT (x.map nRow)) (putT x) else false) = true
    rw [(put_n x).1, (put_n x).2, h, seq_self]; rfl
  refine ⟨e, ?_⟩
  unfold getR
  rw [e, hb]; rfl

/-! ### Get, of texts of any length -/
theorem f13_long {α : Type} (k : Nat) (x : LB) (hx : 65536 < x.length) (K : LR → Int → Option α) : f13a k x K = K (getR x) (getN x) := by
  have hp : parseP x = none := by
    unfold parseP
    have e2 : Nat.ble x.length 65536 = false := by
      cases hh : Nat.ble x.length 65536
      · rfl
      · exact absurd (Nat.le_of_ble_eq_true hh) (by omega)
    rw [e2]; rfl
  have e1 : igt (slen x) 65536 = true := by simp only [igt, slen]; exact decide_eq_true (by omega)
  have hR : getR x = [] := by unfold getR getOK readP; rw [hp]; rfl
  have hN : getN x = 1900 := by unfold getN getOK readP; rw [hp]; rfl
  rw [hR, hN]
  unfold f13a T13a f45a T45a
  rw [e1]; rfl
theorem f13_any {α : Type} (x : LB) (K : LR → Int → Option α) : f13a 1000000000000 x K = K (getR x) (getN x) := by
  by_cases h : x.length ≤ 65536
  · exact f13 1000000000000 (by omega) (by omega) x (by omega) (by omega) K
  · exact f13_long _ x (by omega) K
theorem awake12 {α : Type} (K : Bool → Option α) : f18a 1000000000000 K = K true := by kernel_rfl
theorem short_of {x : LR} (hw : ∀ r ∈ x, wfRow r) (h : putOK x = true) : ∀ r ∈ x, shortRow 1000000000000 r := fun r hr => by
  unfold putOK at h
  rw [Bool.and_eq_true, List.all_eq_true] at h
  exact (mayRow_good (by omega) (h.1 r hr) (hw r hr)).2
theorem putN_ok {x : LR} (h : putOK x = true) : putN x = 0 := by unfold putN; rw [h]; rfl
theorem putN_no {x : LR} (h : putOK x = false) : putN x = 1900 ∧ putT x = [] := by unfold putN putT; rw [h]; exact ⟨rfl, rfl⟩
theorem getN_ok {x : LB} (h : getOK x = true) : getN x = 0 := by unfold getN; rw [h]; rfl
theorem getN_no {x : LB} (h : getOK x = false) : getN x = 1900 ∧ getR x = [] := by unfold getN getR; rw [h]; exact ⟨rfl, rfl⟩

end Go.AI

/-
  PLAIN LAWS: ActionCuts.
-/
set_option maxRecDepth 100000
set_option linter.unusedVariables false
set_option linter.unusedSimpArgs false
namespace Go.AI
open Go.Proofs

/-! ### ActionCuts -/
theorem list_top (k : Nat) (l : List J) (hg : good k 16 (.list l)) (rest : LB) : valueP 16 (render (.list l) ++ rest) = some (.list l, rest) := by
  unfold good at hg
  have hrec : ∀ j ∈ l, ∀ rest, okRest rest → valueP 15 (render j ++ rest) = some (j, rest) := fun j hj rest hr => value_rt k 15 j (goodL_mem hg.2.2 j hj) rest hr
  have es : render (.list l) ++ rest = 91 :: (items true l ++ 93 :: rest) := by unfold render; simp
  show scalarP (render (.list l) ++ rest) (fun b => innerP' (valueP 15) b (render (.list l) ++ rest)) = _
  rw [es]
  show innerP' (valueP 15) false (91 :: (items true l ++ 93 :: rest)) = _
  unfold innerP'
  have ew : whiteP ((91 :: (items true l ++ 93 :: rest)).drop 1) = items true l ++ 93 :: rest := by
    show whiteP (items true l ++ 93 :: rest) = _
    cases l with
    | nil => unfold items; exact white_head (c := 93) rfl
    | cons j l =>
      unfold items
      show whiteP ((render j ++ items false l) ++ 93 :: rest) = (render j ++ items false l) ++ 93 :: rest
      rw [List.append_assoc, white_render]
  rw [ew, list_rt (valueP 15) l _ true [] rest hrec (by have := items_pos true l; simp; omega)]
  rfl
theorem put_good {x : LR} (hx : x.length < 1000000000000) (hw : ∀ r ∈ x, wfRow r) (h : putOK x = true) : ∃ l, putT x = render (.list l) ∧ good 1000000000000 16 (.list l) := by
  have h' := h
  unfold putOK at h'
  rw [Bool.and_eq_true, List.all_eq_true] at h'
  refine ⟨x.map oneJ, by unfold putT; rw [h]; rfl, good_list (by simpa using hx) (fun j hj => ?_)⟩
  obtain ⟨r, hr, rfl⟩ := List.mem_map.1 hj
  exact (mayRow_good (by omega) (h'.1 r hr) (hw r hr)).1
theorem get_good {s : LB} (h : getOK s = true) : ∃ l, s = render (.list l) ∧ good 1000000000000 16 (.list l) := by
  obtain ⟨p1, p2, p3, p4⟩ := get_put h
  have := put_good (by omega) p3 p1
  rw [p2] at this; exact this
/-- a text that is taken goes on with nothing -/
theorem no_more {s q t : LB} (hs : getOK s = true) (ht : getOK t = true) (h : s ++ q = t) : q = [] := by
  obtain ⟨l1, e1, g1⟩ := get_good hs
  obtain ⟨l2, e2, g2⟩ := get_good ht
  have a := list_top _ l1 g1 q
  have b := list_top _ l2 g2 []
  rw [← e1, h] at a
  rw [List.append_nil, ← e2, a] at b
  cases b; rfl
theorem head91 {s : LB} (hs : getOK s = true) : ∃ l, s = 91 :: l := by
  obtain ⟨l1, e1, g1⟩ := get_good hs
  exact ⟨_, e1.trans (by unfold render; rfl)⟩
theorem cut_at (x1 : Int) (n : Nat) (hn : 0 < n) (hb : n ≤ 65536) : inz (wcv .u64 (n : Int)) = true ∧ ∃ m : Nat, m < n ∧ wcv .i64 (wrem (wcv .u64 x1) (wcv .u64 (n : Int))) = (m : Int) := by
  have e : wcv .u64 (n : Int) = (n : Int) := by simp only [wcv, IntKind.wrap, IntKind.signed, IntKind.bits]; simp; omega
  rw [e]
  refine ⟨by simp [inz]; omega, ?_⟩
  have h0 : 0 ≤ wcv .u64 x1 := by simp only [wcv, IntKind.wrap, IntKind.signed, IntKind.bits]; exact Int.emod_nonneg _ (by decide)
  have h1 := Int.tmod_lt_of_pos (wcv .u64 x1) (show (0 : Int) < (n : Int) by omega)
  have h2 := Int.tmod_nonneg (n : Int) h0
  refine ⟨((wcv .u64 x1).tmod (n : Int)).toNat, by omega, ?_⟩
  have e2 : ∀ q : Int, 0 ≤ q → q < (n : Int) → wcv .i64 q = q := fun q q0 q1 => by simp only [wcv, IntKind.wrap, IntKind.signed, IntKind.bits]; simp; omega
  rw [show wrem (wcv .u64 x1) (n : Int) = (wcv .u64 x1).tmod (n : Int) from rfl, e2 _ h2 h1]
  exact (Int.toNat_of_nonneg h2).symm
theorem T7_true {α : Type} (c18 : (Bool → Option α) → Option α) (c11 : LR → (LB → Int → Option α) → Option α) (c15 : Int → Option α → Option α) (c13 : LB → (LR → Int → Option α) → Option α) (c16 : LR → LR → (Bool → Option α) → Option α)
    (h18 : ∀ K, c18 K = K true) (h11 : ∀ x, x.length < 1000000000000 → (∀ r ∈ x, wfRow r) → ∀ K, c11 x K = K (putT x) (putN x)) (h15 : ∀ n K, c15 n K = K) (h13 : ∀ x K, c13 x K = K (getR x) (getN x))
    (h16 : ∀ x, (∀ r ∈ x, shortRow 1000000000000 r) → x.length < 1000000000000 → ∀ K, c16 (x.map nRow) x K = K true)
    (x0 : LR) (x1 : Int) (hx : x0.length < 1000000000000) (hw : ∀ r ∈ x0, wfRow r) (K : Bool → Option α) : T7a c18 c11 c15 (fun x0 x1 y1 y2 a b => T7aj6 c15 c13 c16 K x0 x1 y1 y2 a b) K x0 x1 = K true := by
  unfold T7a
  rw [h18]
  show c11 x0 _ = _
  rw [h11 x0 hx hw, h15]
  cases hp : putOK x0
  · rw [(putN_no hp).1, (putN_no hp).2]
    show T7aj6 c15 c13 c16 K x0 x1 [] 1900 false true = _
    unfold T7aj6
    show c15 1900 _ = _
    rw [h15]; rfl
  · rw [putN_ok hp]
    obtain ⟨g1, g2⟩ := get_of_put hx hw hp
    obtain ⟨l, hl⟩ := head91 g1
    have hne : seq (putT x0) [] = false := by rw [hl]; rfl
    have hlen : (putT x0).length ≤ 65536 := by
      unfold putT; rw [hp]
      unfold putOK at hp
      rw [Bool.and_eq_true] at hp
      exact Nat.le_of_ble_eq_true hp.2
    have hpos : 0 < (putT x0).length := by rw [hl]; simp
    show T7aj6 c15 c13 c16 K x0 x1 (putT x0) 0 false (seq (putT x0) []) = _
    rw [hne]
    unfold T7aj6
    obtain ⟨i1, m, hm, em⟩ := cut_at x1 (putT x0).length hpos hlen
    have i2 : ile 0 (m : Int) = true := by simp [ile]
    have i3 : ile (m : Int) (slen (putT x0)) = true := by simp [ile, slen]; omega
    have hs : ssub (putT x0) 0 (m : Int) = (putT x0).take m := by simp [ssub, ldrop]
    have n1 : getOK ((putT x0).take m) = false := by
      cases hh : getOK ((putT x0).take m)
      · rfl
      · have := no_more hh g1 (List.take_append_drop m (putT x0))
        have hd : ((putT x0).drop m).length = 0 := by rw [this]; rfl
        rw [List.length_drop] at hd; omega
    have n2 : getOK (sadd (putT x0) [32]) = false := by
      cases hh : getOK (sadd (putT x0) [32])
      · rfl
      · have := no_more g1 hh rfl
        cases this
    have n3 : getOK (sadd [32] (putT x0)) = false := by
      cases hh : getOK (sadd [32] (putT x0))
      · rfl
      · obtain ⟨l', hl'⟩ := head91 hh
        cases hl'
    have r1 : sroom (putT x0) [32] = true := Nat.ble_eq_true_of_le (by simp; omega)
    have r2 : sroom [32] (putT x0) = true := Nat.ble_eq_true_of_le (by simp; omega)
    show (bif inz (wcv .u64 ((putT x0).length : Int)) then _ else none) = _
    rw [i1, cond_true]
    simp only [slen] at i3 ⊢
    rw [em, i2, i3, cond_true, cond_true, hs, h13, r1, cond_true, h13, r2, cond_true, h13, h13, h15, (getN_no n1).1]
    show c15 _ _ = _
    rw [h15, (getN_no n2).1]
    show c15 _ _ = _
    rw [h15, (getN_no n3).1]
    show c15 _ _ = _
    rw [h15, getN_ok g1, g2]
    show c16 (x0.map nRow) x0 _ = _
    rw [h16 x0 (short_of hw hp) hx]
theorem cuts_true {α : Type} (x0 : LR) (x1 : Int) (hx : x0.length < 1000000000000) (hw : ∀ r ∈ x0, wfRow r) (K : Bool → Option α) : f7a 1000000000000 x0 x1 K = K true :=
  T7_true (f18a 1000000000000) (f11a 1000000000000) (f15a 1000000000000) (f13a 1000000000000) (f16a 1000000000000) awake12 (fun x hx hw K => f11 1000000000000 (by omega) (by omega) x hx hw K) (fun n K => rfl) f13_any (fun x hs hx K => f16 1000000000000 (by omega) x hs hx K) x0 x1 hx hw K
end Go.AI

namespace Go.Proofs.YtmkgoiimkfppdaaGreatDoor
open Go.ChangeShapes Go.WideShapes Go.WideElems Go.ChangeAt Go.RowKit Go.AI
set_option maxRecDepth 100000
set_option linter.unusedVariables false

theorem own : ownKnob Tryz.prog.godebug = none := by kernel_rfl
theorem gPow : Tryz.prog.globalNamed "internal/strconv.uint64pow10" = some 3 := by kernel_rfl
theorem gPowType : (Tryz.prog.globals[3]?).map (·.type) = some 207 := by kernel_rfl
theorem cells207 : Tryz.prog.cellsOf 207 = 20 := by kernel_rfl
theorem cellsU64 : Tryz.prog.cellsOf 98 = 1 := by kernel_rfl

abbrev Lyd : List (String × DataW Unit) := Rows.actionCutsRow.laid
theorem glob_of_laid {W : World} (h : laidMetH Tryz.prog Lyd W) : GlobR Tryz.prog (startOf W) Gl := by
  have h1 := (laidMetH_iff.1 h).1
  have h2 := h1.filter fun x => x.1 == "internal/strconv.uint64pow10"
  have e : ((Lyd.filter fun x => x.2.handleName?.isNone).filter fun x => x.1 == "internal/strconv.uint64pow10") = [("internal/strconv.uint64pow10", Lib.tabData .u64 Lib.pow10Tab)] := by kernel_rfl
  rw [e] at h2
  have h3 : Lib.TabIs Tryz.prog W "internal/strconv.uint64pow10" .u64 Lib.pow10Tab := Lib.tabIs_of_head gPow gPowType Tryz.underlying207 Tryz.underlying98 cellsU64 cells207 h2
  refine globR_start fun g v hg => ?_
  unfold Gl at hg
  cases hb : Nat.beq g 3 with
  | false => rw [hb] at hg; cases hg
  | true =>
    rw [hb] at hg
    obtain rfl := Nat.eq_of_beq_eq_true hb
    cases hg
    refine ⟨_, _, rfl, by kernel_rfl, fun k hk => ?_, ?_⟩
    · have hk' : k < 20 := hk
      have : ∀ k : Fin 20, isData (lget (Lib.pow10Tab.map (AV.i .u64)) k.1 .unk) = true := by decide +kernel
      exact this ⟨k, hk'⟩
    · unfold Lib.TabIs World.var? at h3
      rw [gPow] at h3
      simp only [Option.bind_some] at h3
      split at h3
      · rename_i cs ty fr hc
        cases h3
        exact ⟨ty, fr, by rw [hc]; rfl⟩
      · cases h3
section
variable {H : Type} {enc : TypeId × Value → H} {P : Program}
/-- a call that wrote nothing of what was there: what it leaves reads as it read -/
theorem post_of_below {f : Func} {s : ChangeSpec} {apart fresh handsOn again : Bool} {W W' : World} {args : Array Value} {v : Value} {ds gs : List (DataW H)} {before pa pv : List MemPlace}
    (hW : DataW.Whole enc P f.params.toList s.vars apart W args.toList ds gs before)
    (hres : ∀ (b : Nat) (sp : Nat → Bool) (hd : Bool), DataW.TrodAll enc P W' b sp hd f.resultTypes.toList (v.resultList f.resultTypes.size) (s.fn H (ds ++ gs)).results [])
    (hargs : ∀ sp : Nat → Bool, (∀ p ∈ before, sp p.block = true) → DataW.TrodAll enc P W' 0 sp true f.params.toList args.toList (s.fn H (ds ++ gs)).args pa)
    (hvars : ∀ sp : Nat → Bool, (∀ p ∈ before, sp p.block = true) → DataW.TrodVars enc P W' sp s.vars (s.fn H (ds ++ gs)).vars pv)
    (hps : before = pa ++ pv) (hb : Below W.heap.size W W')
    (hok : ∀ (j : Nat) (t : TypeId) (r : Value), f.resultTypes[j]? = some t → (v.resultList f.resultTypes.size)[j]? = some r → Value.okWide P W' .any 0 t r) :
    s.post enc P f apart fresh handsOn again W args v W' := by
  have hold : ∀ p ∈ before, (fun b => decide (b < W.heap.size)) p.block = true := fun p hp => by simpa using hW.lt p hp
  have hlt : ∀ p ∈ before, p.block < W.heap.size := fun p hp => hW.lt p hp
  refine ⟨ds, gs, before, [], pa, pv, hW, hres _ _ _, hargs _ hold, hvars _ hold, World.keptBut_mono (fun p hp => ⟨hp, ?_⟩) (hb.frame (· ∈ before)), fun _ => ?_⟩
  · rw [hps, List.mem_append] at hp
    exact Or.inr hp
  · obtain ⟨_, _, _, _, _, hz, hn⟩ := hW
    refine ⟨hok, _, _, ([] ++ pa) ++ pv, ⟨[] ++ pa, pv, trodAll_append (hargs _ (fun _ _ => rfl)) (hres _ _ _), hvars _ (fun _ _ => rfl), rfl, ?_, ?_⟩, ?_⟩
    · intro b off hp
      have hp' : MemPlace.cell b off ∈ before := by rw [hps]; simpa using hp
      rw [hb.frozen (hlt _ hp')]
      exact hz b off hp'
    · intro ha
      have := hn ha
      rw [hps] at this
      simpa using this
    · intro p hp _
      rw [hps]
      simpa using hp
end
theorem laidOut : laidOutB Tryz.prog = true := by kernel_rfl
theorem under22 : Tryz.prog.underlying 22 = some (.slice 38) := by kernel_rfl
theorem readable22 : Tryz.prog.readableRec 22 = true := by kernel_rfl
theorem row22 : 22 < Tryz.prog.types.size := of_decide_eq_true (by kernel_rfl)
theorem bytes38 : Tryz.prog.bytesOf 38 = 264 := by kernel_rfl
theorem rows38 : rowT Tryz.prog (fun e => rowT Tryz.prog (fun _ => false) e && plainT Tryz.prog (fun _ => false) 8 e) 38 = true := by kernel_rfl
theorem wf_of {r : List AV} (h : ∀ c ∈ r, cellW c) : wfRow r :=
  ⟨fun v hv => toI_leaf (lget_leaf 1 fun c hc => toR_cell (lget_cell 4 h) v hv c hc),
   fun v hv => ⟨toI_leaf (lget_leaf 0 fun c hc => toR_cell (lget_cell 5 h) v hv c hc), toI_leaf (lget_leaf 3 fun c hc => toR_cell (lget_cell 5 h) v hv c hc), toI_leaf (lget_leaf 7 fun c hc => toR_cell (lget_cell 5 h) v hv c hc)⟩,
   toI_leaf (leafW_of (lget_cell 19 h))⟩
theorem okWide_sl {P : Program} {W : World} {r : Reach} {b0 : Nat} {t e : TypeId} {v : Value} (ht : P.underlying t = some (.slice e)) (h : Value.okWide P W r b0 t v) : ∃ a l c, v = .slice a l c := by
  simp only [Value.okWide, ht, Cell.okWide] at h
  cases v <;> simp_all [Cell.ok]
theorem walk7 (w : World) (hL : laidMetH Tryz.prog Lyd w) (rows : List (List AV)) (v0 : Value) (b : Int) (hc : CR Tryz.prog (Hw w) (.lst 38 rows .view) v0) (hx : rows.length < 1000000000000) (hw : ∀ r ∈ rows, wfRow r) :
    Calls Tryz.prog 7 #[v0, .int .i64 b] w (fun e w' => e = .returned (.bool true) ∧ Below w.heap.size w w') :=
  law_calls (ok7a 1000000000000) (args := [.lst 38 rows .view, .i .i64 b]) (F := fun K => f7a 1000000000000 rows (b) (fun y0 => K (.ok (.b y0) []))) rfl (cuts_true rows _ hx hw _) Tryz.func7 (by kernel_rfl) (glob_of_laid hL) (vs := [v0, .int .i64 b]) ⟨⟨hc, trivial⟩, (CR.int _ _), trivial⟩

theorem contract (H : Type) (enc : TypeId × Value → H) (W : World) (base : Nat) (args : Array Value) (ds gs : List (DataW H)) (before : List MemPlace)
    (hval : ∀ (j : Nat) t v, Tryz.f7.params[j]? = some t → args[j]? = some v → Value.okWide Tryz.prog W .any base t v)
    (hW : DataW.Whole enc Tryz.prog Tryz.f7.params.toList Rows.actionCutsSpec.vars false W args.toList ds gs before) (hL : laidMetH Tryz.prog Rows.actionCutsRow.laid W)
    (hsz : (DataW.weightsEach Tryz.prog (Tryz.f7.params.toList ++ (OpenSpec.ofChange Rows.actionCutsSpec).bare.plain.varTypes Tryz.prog) (ds ++ gs)).all (· ≤ reachBytes) = true) :
    Calls Tryz.prog 7 args W fun e W' => ∃ v, e = .returned v ∧ Rows.actionCutsSpec.post enc Tryz.prog Tryz.f7 false true false false W args v W' := by
  have hW' := hW
  obtain ⟨p, q, hA0, hV, rfl, hfz, hnd⟩ := hW
  have hA : DataW.TrodAll enc Tryz.prog W 0 (fun _ => true) true Tryz.f7.params.toList args.toList ds p := hA0
  rw [Tryz.params7] at hA hval hsz
  obtain ⟨v0, vs0, d0, ds0, p0, q0, hargs, rfl, rfl, h0, r0⟩ := trodAll_cons hA
  obtain ⟨v1, vs1, d1, ds1, p1, q1, rfl, rfl, rfl, h1, r1⟩ := trodAll_cons r0
  obtain ⟨rfl, rfl, rfl⟩ := trodAll_nil r1
  obtain rfl : args = #[v0, v1] := by cases args; simp_all
  obtain ⟨rfl, rfl⟩ := trodVars_none hV
  obtain ⟨sa, sl, sc, rfl⟩ := okWide_sl under22 (hval 0 22 v0 rfl rfl)
  have h0' := h0
  obtain ⟨fuel, hf⟩ := h0'
  obtain ⟨rows, v, e1, hcr, hcw, _, hcount⟩ := slice_open (opens_rows opens_none) rows38 22 fuel _ _ under22 hf
  have ev : v = .slice sa sl sc := by
    have : [Value.slice sa sl sc] = [v] := e1
    exact (List.cons.inj this).1.symm
  subst ev
  have hlen : rows.length < 1000000000000 := by
    rcases hcount with ⟨hn, _⟩ | ⟨elems, sp, hd, he⟩
    · rw [hn]; exact Nat.zero_lt_succ _
    · have hd' : d0 = .slice elems sp := hd
      have := sized_slice hsz (j := 0) (t := 22) (e := 38) rfl (show _ = some (DataW.slice elems sp) by rw [hd']; rfl) under22
      rw [bytes38] at this
      simp only [reachBytes] at this
      omega
  have hwf : ∀ r ∈ rows, wfRow r := fun r hr => wf_of (hcw r hr)
  have h1' := h1
  obtain ⟨s, rfl, rfl, rfl, ws⟩ := open_int Tryz.underlying3 (hval 1 3 v1 rfl rfl) h1
  clear hA0 hA
  have hlt : ∀ x ∈ (p0 ++ ([] ++ [])) ++ [], x.block < W.heap.size := fun x hx => hW'.lt x hx
  refine (walk7 W hL rows _ s hcr hlen hwf).mono fun e W' ⟨he, hg⟩ => ?_
  subst he
  exact ⟨_, rfl, post_of_below (pa := p0 ++ ([] ++ [])) (pv := []) hW' (fun _ _ _ => trodAll_cons_mk (shut_bool Tryz.underlying4 _) trodAll_mk0)
    (fun sp hs => trodAll_cons_mk (Trod_stays laidOut readable22 row22 h0 (fun x hx => hg.same (hlt x (by simp [hx]))) (fun x hx => hs x (by simp [hx]))) (trodAll_cons_mk (shut_int Tryz.underlying3 ws) trodAll_mk0)) (fun _ _ => rfl) rfl hg (ok_one (by kernel_rfl) rfl (okWide_bool_mk Tryz.underlying4 _))⟩

theorem lifted (os : Os) (started : os.Started) (H : Type) (enc : TypeId × Value → H) (F : Stop.Interp) :
    ReturnsInHanded {} Tryz.checked os 7 .any ((OpenSpec.ofChange Rows.actionCutsSpec).preRow enc Tryz.prog Tryz.f7 Rows.actionCutsRow.domain false Rows.actionCutsRow.laid) (((OpenSpec.ofChange Rows.actionCutsSpec).at F).post enc Tryz.prog Tryz.f7 false true false false) := by
  have hL : laidMetH Tryz.prog Rows.actionCutsRow.laid ((World.laidAll Tryz.prog os Rows.actionCutsRow.laid).forCall (fun _ _ => 0) ⟨#[], #[.slice none 0 0, .int .i64 0], []⟩).memory := by
    rw [MakeChecks.laidMetH_plain _ _ _ (by kernel_rfl)]; exact laidMet_laidAll _ (by kernel_rfl) (by kernel_rfl)
  have hx : DataW.whole enc Tryz.prog ((World.laidAll Tryz.prog os Rows.actionCutsRow.laid).forCall (fun _ _ => 0) ⟨#[], #[.slice none 0 0, .int .i64 0], []⟩).memory Tryz.f7.params.toList Rows.actionCutsSpec.vars false #[Value.slice none 0 0, Value.int .i64 0].toList 8 = some ([.nil, .lit (.int .i64 0)], [], []) := by kernel_rfl
  refine returnsInHanded_of_row (C := Tryz.checked) (s := OpenSpec.ofChange Rows.actionCutsSpec) own started (by kernel_rfl) Tryz.func7
    (witness_row_at (enc := enc) (C := Tryz.checked) false (World.laidAll Tryz.prog os Rows.actionCutsRow.laid) #[.slice none 0 0, .int .i64 0] (World.laidAll_os _ _ _) (by kernel_rfl) (by kernel_rfl) (by kernel_rfl)
      (OpenSpec.preRow_of_cond 8 hx (by kernel_rfl) (fun k hk => by cases hk) (by kernel_rfl) hL)) ?_
  intro W base args ds gs before hval hW _ _ hsz hL _ _
  exact contract H enc W base args ds gs before hval hW hL hsz

theorem said : Rows.ActionCutsSaid :=
  OpenClaim.holds_of_cond 7 Tryz.f7 rfl rfl rfl rfl rfl rfl rfl ⟨rfl, rfl, rfl, rfl, rfl⟩ rfl rfl rfl rfl rfl (by kernel_rfl) Tryz.func7 (by kernel_rfl)
    (of_decide_eq_true (by kernel_rfl)) (by unfold Func.isWrapper; first | (rw [if_pos (by decide +kernel)]; kernel_rfl) | (rw [if_neg (by decide +kernel)]; exact ⟨rfl, rfl⟩))
    (fun os started H enc _ F => by rw [OpenClaim.pre_eq_preRow]; exact lifted os started H enc F)

theorem plain (f : FuncId) (fn : Func) (hf : Tryz.pinned.checked.prog.funcNamed "boathouse/boathouselaw19.ActionCuts" = some f) (hfn : Tryz.pinned.checked.prog.funcs[f]? = some fn) :
    true = Tryz.pinned.checked.prog.looks [] ∧ ∀ (j : Nat) t, fn.params[j]? = some t → Tryz.pinned.checked.prog.wantsStandIn t = false := by
  obtain rfl : f = 7 := Option.some.inj ((show Tryz.prog.funcNamed "boathouse/boathouselaw19.ActionCuts" = some 7 by kernel_rfl).symm.trans hf) |>.symm
  obtain rfl : fn = Tryz.f7 := (Option.some.inj (Tryz.func7.symm.trans hfn)).symm
  refine ⟨by kernel_rfl, fun j t ht => ?_⟩
  rw [Tryz.params7] at ht
  have : t = 22 ∨ t = 3 := by simpa using Array.mem_of_getElem? ht
  rcases this with rfl | rfl
  · exact (show Tryz.prog.wantsStandIn 22 = false by kernel_rfl)
  · exact (show Tryz.prog.wantsStandIn 3 = false by kernel_rfl)

/-- THE CARD -/
theorem card : Rows.ActionCutsCardSaid :=
  Claim7.holds_tied_plain_at .later [] _ _ _ _ said (fun _ h => by cases h) (by kernel_rfl) (fun _ h => by cases h) actionCuts_row_tie rfl ⟨rfl, rfl⟩ (by kernel_rfl) rfl plain (by kernel_rfl)
end Go.Proofs.YtmkgoiimkfppdaaGreatDoor
