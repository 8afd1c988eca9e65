/- ActionCuts of boathouse/action: for all a, cut, which the law's function returns true and leaves its arguments alone; no condition. The machine side: an abstract interpreter of the model's code, proved sound once, and the functions that it comes to, printed and checked; the plain side: the form check, the writer and the parser each exact for whatever they are handed, that what is written is read again and that no text that is taken goes on. -/
import Derived.Lib.AppendStr
import Derived.Lib.ConvBytes
import Derived.Great.BuildSlice
import Derived.Orders
import Derived.Test.YtmkgoiimkfppdaaGreatDoorCuA
/-
  THE OPERATIONS (8): what is appended. Nothing here is about one program.
-/
set_option linter.unusedVariables false
set_option linter.unusedSimpArgs false
namespace Go.AI

/-! ### rows -/
structure RowsR (P : Program) (H : Nat → Nat → Option Value) (e : TypeId) (rows : List (List AV)) (cs : Nat → Value) : Prop where
  ok : okRows (kindsOf P e) rows = true
  hs : (kindsOf P e).length = szOf P e
  pos : 0 < szOf P e
  cr : ∀ i j, i < rows.length → j < szOf P e → CR P H (lget (lget rows i []) j .unk) (cs (i * szOf P e + j))

section
variable {P : Program} {H H' : Nat → Nat → Option Value} {e : TypeId} {rows rows' : List (List AV)} {cs cs' : Nat → Value}
theorem RowsR.mono (h : RowsR P H e rows cs) (hm : ∀ b o v, H b o = some v → H' b o = some v) : RowsR P H' e rows cs := ⟨h.ok, h.hs, h.pos, fun i j hi hj => (h.cr i j hi hj).mono hm⟩
theorem RowsR.congr (h : RowsR P H e rows cs) (hc : ∀ k, k < rows.length * szOf P e → cs' k = cs k) : RowsR P H e rows cs' := ⟨h.ok, h.hs, h.pos, fun i j hi hj => by
  rw [hc]
  · exact h.cr i j hi hj
  · have : i * szOf P e + szOf P e ≤ rows.length * szOf P e := by rw [← Nat.succ_mul]; exact Nat.mul_le_mul_right _ hi
    omega⟩
theorem RowsR.lst (h : RowsR P H e rows cs) {b off cap : Nat} (hcap : rows.length ≤ cap) (hH : ∀ k, k < rows.length * szOf P e → H b (off + k) = some (cs k)) : CR P H (.lst e rows .view) (.slice (some ⟨b, off, none⟩) rows.length cap) :=
  CR.lst e rows b off cap cs hcap h.ok h.hs h.pos hH h.cr
theorem RowsR.append (h : RowsR P H e rows cs) (h' : RowsR P H e rows' cs') : RowsR P H e (rows ++ rows') (fun k => if k < rows.length * szOf P e then cs k else cs' (k - rows.length * szOf P e)) := by
  refine ⟨okRows_append h.ok h'.ok, h.hs, h.pos, fun i j hi hj => ?_⟩
  have hp := h.pos
  by_cases c : i < rows.length
  · have hlt : i * szOf P e + j < rows.length * szOf P e := by
      have : i * szOf P e + szOf P e ≤ rows.length * szOf P e := by rw [← Nat.succ_mul]; exact Nat.mul_le_mul_right _ c
      omega
    have hr : lget (rows ++ rows') i [] = lget rows i [] := by rw [lget_eq, lget_eq]; simp [List.getD, List.getElem?_append_left c]
    simp only [hr, if_pos hlt]
    exact h.cr i j c hj
  · have hge : ¬ i * szOf P e + j < rows.length * szOf P e := by
      have : rows.length * szOf P e ≤ i * szOf P e := Nat.mul_le_mul_right _ (by omega)
      omega
    have hr : lget (rows ++ rows') i [] = lget rows' (i - rows.length) [] := by rw [lget_eq, lget_eq]; simp [List.getD, List.getElem?_append_right (by omega : rows.length ≤ i)]
    simp only [hr, if_neg hge]
    have hsub : i * szOf P e + j - rows.length * szOf P e = (i - rows.length) * szOf P e + j := by
      have : rows.length * szOf P e ≤ i * szOf P e := Nat.mul_le_mul_right _ (by omega)
      rw [Nat.sub_mul]; omega
    rw [hsub]
    exact h'.cr (i - rows.length) j (by simp at hi; omega) hj
theorem rows_of_CR {v : Value} (h : CR P H (.lst e rows .view) v) (hs : (kindsOf P e).length = szOf P e) (hp : 0 < szOf P e) :
    ∃ cs, RowsR P H e rows cs ∧ ((∃ a cap, v = .slice a 0 cap ∧ rows = [] ∧ (a = none → cap = 0)) ∨ ∃ b off cap, v = .slice (some ⟨b, off, none⟩) rows.length cap ∧ rows.length ≤ cap ∧ ∀ k, k < rows.length * szOf P e → H b (off + k) = some (cs k)) := by
  cases h with
  | lnil _ a cap ha => exact ⟨fun _ => undef, ⟨rfl, hs, hp, fun i j hi => by simp at hi⟩, .inl ⟨a, cap, rfl, rfl, ha⟩⟩
  | lst _ _ b off cap cs hcap hk hs' hpos hH hc => exact ⟨cs, ⟨hk, hs', hpos, hc⟩, .inr ⟨b, off, cap, rfl, hcap, hH⟩⟩
end

/-! ### append, whatever is appended -/
section
variable {P : Program} {w : World}
/-- what is appended: so many elements, these cells, in every world of this memory -/
def Src (P : Program) (w : World) (size : Nat) (y : Value) (m : Nat) (news : List Value) : Prop :=
  ∀ w' : World, w'.heap = w.heap → (Builtin.lenOf y).run P w' = .ok m w' ∧ (Builtin.firstCells size m y).run P w' = .ok news.toArray w'

theorem run_app_room {T : Array TypeId} {t t2 ty e : TypeId} {i : TypeInfo} {d2 : TypeDesc} (hT0 : T[0]? = some t) (hT1 : T[1]? = some t2) (ht : P.underlying t = some (.slice e)) (h2 : P.underlying t2 = some d2) (hd2 : ∀ k, d2 ≠ .int k) (hi : P.info? e = some i)
    {g n cap : Nat} {blk : Array Value} (hg : w.heap[g]? = some (.cells blk e (0, 0))) {y : Value} {m : Nat} {news : List Value} (hs : Src P w i.size y m news) (hl : news.length = m * i.size) (h1 : ∀ u ∈ news, u.oneCell' = true)
    (hroom : n + m ≤ cap) (hfit : n * i.size + news.length ≤ blk.size) :
    (Builtin.append_ T ty #[.slice (some ⟨g, 0, none⟩) n cap, y]).run P w = .ok (.slice (some ⟨g, 0, none⟩) (n + m) cap) (w.setRow g (blk.toList.take (n * i.size) ++ news ++ blk.toList.drop (n * i.size + news.length)).toArray) := by
  obtain ⟨s1, s2⟩ := hs w rfl
  have hst := run_storeCells_at P g (n * i.size) e news 0 blk w hg (by simpa using hfit) h1
  simp only [Nat.add_zero] at hst
  have hz : (match d2 with | .int _ => true | _ => false) = false := by cases d2 <;> first | rfl | exact absurd rfl (hd2 _)
  have e0 : (#[Value.slice (some ⟨g, 0, none⟩) n cap, y] : Array Value)[0]? = some (.slice (some ⟨g, 0, none⟩) n cap) := rfl
  have e1 : (#[Value.slice (some ⟨g, 0, none⟩) n cap, y] : Array Value)[1]? = some y := rfl
  simp [Builtin.append_, hT0, hT1, run_underlying ht, run_underlying h2, sizeOf, typeInfo, hi, hz, s1, s2, hroom, Addr.add_mid, hst]

theorem run_app_none {T : Array TypeId} {t t2 ty e : TypeId} {i : TypeInfo} {d2 : TypeDesc} (hT0 : T[0]? = some t) (hT1 : T[1]? = some t2) (ht : P.underlying t = some (.slice e)) (h2 : P.underlying t2 = some d2) (hd2 : ∀ k, d2 ≠ .int k) (hi : P.info? e = some i)
    {y : Value} {news : List Value} (hs : Src P w i.size y 0 news) : (Builtin.append_ T ty #[.slice none 0 0, y]).run P w = .ok (.slice none 0 0) w := by
  obtain ⟨s1, s2⟩ := hs w rfl
  have hz : (match d2 with | .int _ => true | _ => false) = false := by cases d2 <;> first | rfl | exact absurd rfl (hd2 _)
  simp [Builtin.append_, hT0, hT1, run_underlying ht, run_underlying h2, sizeOf, typeInfo, hi, hz, s1, s2]

theorem run_app_grow {T : Array TypeId} {t t2 ty e : TypeId} {i : TypeInfo} {z : Value} {d2 : TypeDesc} (hT0 : T[0]? = some t) (hT1 : T[1]? = some t2) (ht : P.underlying t = some (.slice e)) (h2 : P.underlying t2 = some d2) (hd2 : ∀ k, d2 ≠ .int k) (hi : P.info? e = some i) (hz : i.zero = some z)
    {base : Option Addr} {n cap : Nat} {olds : List Value} (ho : ∀ w' : World, w'.heap = w.heap → (Builtin.firstCells i.size n (.slice base n cap)).run P w' = .ok olds.toArray w')
    {y : Value} {m : Nat} {news : List Value} (hs : Src P w i.size y m news) (hg : cap < n + m) (h63 : ((n + m : Nat) : Int) ≤ 9223372036854775807) (hfit : (n + m) * i.bytes ≤ 140737488355328) :
    (Builtin.append_ T ty #[.slice base n cap, y]).run P w = .ok (.slice (some ⟨w.heap.size, 0, none⟩) (n + m) (grownCap w (n + m) cap e))
      (w.drew.alloc (.cells (olds ++ news ++ (Builtin.zeroCells z.cells (grownCap w (n + m) cap e - (n + m))).toList).toArray e)) := by
  obtain ⟨s1, _⟩ := hs w rfl
  obtain ⟨_, s2⟩ := hs w.drew rfl
  have o2 := ho w.drew rfl
  have hdz : (match d2 with | .int _ => true | _ => false) = false := by cases d2 <;> first | rfl | exact absurd rfl (hd2 _)
  have hn : ¬ (n + m ≤ cap) := by omega
  have h63' : ¬ (9223372036854775807 < ((n : Int) + (m : Int))) := by omega
  have h48' : ¬ (281474976710656 < Builtin.nextslicecap (n + m) cap * i.bytes) := by have := growslice_fits (old := cap) hg hfit; omega
  simp [Builtin.append_, hT0, hT1, run_underlying ht, run_underlying h2, sizeOf, typeInfo, zeroValue, hi, hz, hdz, s1, hn, h63', h48', Question.forced, s2, o2, newRow, grownCap]
  congr 2
  apply Array.ext'
  simp [List.append_assoc]
end
end Go.AI

/-
  THE OPERATIONS (9): append. Nothing here is about one program.
-/
set_option linter.unusedVariables false
set_option linter.unusedSimpArgs false
namespace Go.AI

section
variable {P : Program} {E E' : Env} {S : Start} {M : Mem} {cur cur' : Cur} {U U' : Nat → Prop} {w w' : World}

/-- a row of our own goes on in its room -/
theorem WR.growRow (hw : WR P E S M cur U w) {k : Tok} {e : TypeId} {g n m cap : Nat} {blk blk' : Array Value} (hk : E.own k = some (e, .slice (some ⟨g, 0, none⟩) n cap)) (hr : E.rt k = true)
    (hg : w.heap[g]? = some (.cells blk e (0, 0))) (hnm : n ≤ m) (hcap : m ≤ cap) (hsize : blk'.size = blk.size) (hkeep : ∀ o, o < n * szOf P e → blk'[o]? = blk[o]?) (hU : ∀ j, U j → U' j)
    (hver : cur k < cur' k) (hcur : ∀ k', k' ≠ k → cur' k' = cur k') :
    Later E cur { E with H := fun b o => if b = g ∧ n * szOf P e ≤ o then (if o < m * szOf P e then blk'[o]? else none) else E.H b o, own := fun k' => if k' = k then some (e, .slice (some ⟨g, 0, none⟩) m cap) else E.own k' } cur' ∧
    WR P { E with H := fun b o => if b = g ∧ n * szOf P e ≤ o then (if o < m * szOf P e then blk'[o]? else none) else E.H b o, own := fun k' => if k' = k then some (e, .slice (some ⟨g, 0, none⟩) m cap) else E.own k' } S M cur' U' (w.setRow g blk') := by
  obtain ⟨q1, qa⟩ := hw.rights k _ _ hk hr
  have qacc := qa g rfl
  rcases q1 with q1 | ⟨g', n', cap', blk0, q0, p1, p2, p3, p4, p5, p6⟩
  · cases q1
  cases q0
  have : blk0 = blk := by rw [hg] at p1; cases p1; rfl
  subst this
  have hglt : g < w.heap.size := (Array.getElem?_eq_some_iff.1 hg).1
  have hrow : (w.setRow g blk').heap[g]? = some (.cells blk' e (0, 0)) := setRow_heap w g blk0 blk' e (0, 0) hg
  have hoth : ∀ b, b ≠ g → (w.setRow g blk').heap[b]? = w.heap[b]? := fun b hb => setRow_other w g b blk' hb
  have hL : Later E cur { E with H := fun b o => if b = g ∧ n * szOf P e ≤ o then (if o < m * szOf P e then blk'[o]? else none) else E.H b o, own := fun k' => if k' = k then some (e, .slice (some ⟨g, 0, none⟩) m cap) else E.own k' } cur' := by
    refine ⟨fun b o v h => ?_, fun _ _ h => h, fun k' e' u' h => ?_, fun k' p hn h => h⟩
    · simp only
      rw [if_neg]
      · exact h
      · rintro ⟨rfl, ho⟩
        have := p5 o v h
        omega
    · by_cases hkk : k' = k
      · subst hkk
        rw [hk] at h; cases h
        exact ⟨_, by simp; rfl, by omega, fun e => by omega⟩
      · exact ⟨u', by simp [hkk, h], by rw [hcur k' hkk]; exact Nat.le_refl _, fun _ => ⟨rfl, fun h => h⟩⟩
  refine ⟨hL, ?_⟩
  refine
    { mem := fun id x h => ?_, inj := hw.inj, bnd := fun i b h => ?_, freshβ := fun n hn => hw.freshβ n fun h => hn (hU n h), freshR := fun n hn => ?_, freshC := fun n j off hn => ?_,
      heap := ?_, ext := ?_, acc := ?_, rights := ?_, dist := ?_, os := hw.os, tape := hw.tape, output := hw.output, size := by simpa using hw.size, frame := fun b hb ha => ?_ }
  · obtain ⟨b, hb, ho⟩ := hw.mem id x h
    exact ⟨b, hb, (ho.later hL).world (hoth b fun e => p6 id (e ▸ hb))⟩
  · obtain ⟨r1, r2, r3⟩ := hw.bnd i b h
    refine ⟨by simpa using r1, fun o => ?_, r3⟩
    simp only
    rw [if_neg (by rintro ⟨e, _⟩; exact p6 i (e ▸ h))]
    exact r2 o
  · simp only
    rw [if_neg fun e => by have := hw.freshR n fun h => hn (hU n h); rw [e, hk] at this; cases this]
    exact hw.freshR n fun h => hn (hU n h)
  · simp only
    rw [if_neg fun e => by have := hw.freshC n j off fun h => hn (hU n h); rw [e, hk] at this; cases this]
    exact hw.freshC n j off fun h => hn (hU n h)
  · intro b o v h
    simp only at h
    split at h
    · rename_i hb
      obtain ⟨rfl, ho⟩ := hb
      split at h
      · rw [cell_of_row _ _ o blk' e (0, 0) hrow]; exact h
      · cases h
    · rename_i hb
      have hc := hw.heap b o v h
      by_cases hbg : b = g
      · subst hbg
        have ho : o < n * szOf P e := by
          rcases Nat.lt_or_ge o (n * szOf P e) with h | h
          · exact h
          · exact absurd ⟨rfl, h⟩ hb
        rw [cell_of_row _ _ o blk' e (0, 0) hrow, hkeep o ho, ← cell_of_row w b o blk0 e (0, 0) hg]
        exact hc
      · rw [World.cell?_of_block (w := w) (a := ⟨b, o, none⟩) (hoth b hbg)]
        exact hc
  · intro b o v h
    exact hL.H b o v (hw.ext b o v h)
  · intro b o v h
    simp only at h
    split at h
    · rename_i hb
      obtain ⟨rfl, ho⟩ := hb
      exact .inr qacc
    · exact hw.acc b o v h
  · intro k' e' u' h hr'
    simp only at h hr'
    by_cases hkk : k' = k
    · rw [if_pos hkk] at h; cases h
      refine ⟨.inr ⟨g, m, cap, blk', rfl, hrow, hcap, p3, hsize.trans p4, fun o v hv => ?_, p6⟩, fun g' hg' => ?_⟩
      · simp only at hv
        split at hv
        · rename_i hb
          split at hv
          · assumption
          · cases hv
        · have := p5 o v hv
          have := Nat.mul_le_mul_right (szOf P e) hnm
          omega
      · simp [Value.ownBlock] at hg'; subst hg'; exact qacc
    · rw [if_neg hkk] at h
      obtain ⟨r1, r2⟩ := hw.rights k' e' u' h hr'
      refine ⟨?_, r2⟩
      have hne : u'.ownBlock ≠ some g := fun he => hkk (hw.dist k' k e' e u' _ g h hr' hk hr he rfl)
      rcases r1 with r1 | ⟨g1, m', cap1, blk1, rfl, s1, s2, s3, s4, s5, s6⟩
      · exact .inl r1
      · have hg1 : g1 ≠ g := fun e => hne (by rw [e]; rfl)
        refine .inr ⟨g1, m', cap1, blk1, rfl, (hoth g1 hg1).trans s1, s2, s3, s4, fun o v hv => ?_, s6⟩
        simp only at hv
        rw [if_neg (by rintro ⟨e, _⟩; exact hg1 e)] at hv
        exact s5 o v hv
  · intro k1 k2 e1 e2 u1 u2 g' h1 r1 h2 r2 g1 g2
    simp only at h1 h2 r1 r2
    by_cases c1 : k1 = k <;> by_cases c2 : k2 = k
    · rw [c1, c2]
    · rw [if_pos c1] at h1; cases h1
      rw [if_neg c2] at h2
      simp [Value.ownBlock] at g1; subst g1
      exact absurd (hw.dist k2 k _ _ _ _ g h2 r2 hk hr g2 rfl) c2
    · rw [if_pos c2] at h2; cases h2
      rw [if_neg c1] at h1
      simp [Value.ownBlock] at g2; subst g2
      exact absurd (hw.dist k1 k _ _ _ _ g h1 r1 hk hr g1 rfl) c1
    · rw [if_neg c1] at h1; rw [if_neg c2] at h2
      exact hw.dist k1 k2 e1 e2 u1 u2 g' h1 r1 h2 r2 g1 g2
  · have hne : b ≠ g := fun e => by
      subst e
      rcases qacc with h | h
      · exact ha h
      · omega
    rw [hoth b hne]
    exact hw.frame b hb ha

/-- nothing at all has a right -/
def nilEnv (E : Env) (k : Tok) (e : TypeId) : Env :=
  { E with own := fun k' => if k' = k then some (e, .slice none 0 0) else E.own k', rt := fun k' => if k' = k then true else E.rt k' }
theorem WR.nilRow (hw : WR P E S M cur U w) {k : Tok} {e : TypeId} (hk : E.own k = none ∨ (E.own k = some (e, .slice none 0 0) ∧ E.rt k = true)) (hU : ∀ j, U j → U' j)
    (hkr : ∀ n, k = .res n → E.own k = none → U' n) (hkc : ∀ n j off, E.own k = none → k ≠ .cb n j off) (hcur : ∀ k', cur k' ≤ cur' k') (hcur' : ∀ k', k' ≠ k → cur' k' = cur k') :
    Later E cur (nilEnv E k e) cur' ∧ WR P (nilEnv E k e) S M cur' U' w := by
  have hL : Later E cur (nilEnv E k e) cur' := by
    refine ⟨fun _ _ _ h => h, fun _ _ h => h, fun k' e' u' h => ?_, fun _ _ _ h => h⟩
    by_cases hkk : k' = k
    · subst hkk
      rcases hk with hk | ⟨hk, hr⟩
      · rw [hk] at h; cases h
      · rw [hk] at h; cases h
        exact ⟨_, by simp [nilEnv], hcur _, fun _ => ⟨rfl, fun _ => by simp [nilEnv]⟩⟩
    · exact ⟨u', by simp [nilEnv, hkk, h], hcur _, fun _ => ⟨rfl, fun h => by simp [nilEnv, hkk, h]⟩⟩
  refine ⟨hL, hw.later hL rfl rfl hU (fun n hn => ?_) (fun n j off hn => ?_) (fun k' e' u' h hr => ?_) ?_⟩
  · simp only [nilEnv]
    by_cases hkk : Tok.res n = k
    · subst hkk
      rcases hk with hk | ⟨hk, _⟩
      · exact absurd (hkr n rfl hk) hn
      · rw [hw.freshR n fun h => hn (hU n h)] at hk; cases hk
    · rw [if_neg hkk]; exact hw.freshR n fun h => hn (hU n h)
  · simp only [nilEnv]
    by_cases hkk : Tok.cb n j off = k
    · subst hkk
      rcases hk with hk | ⟨hk, _⟩
      · exact absurd rfl (hkc n j off hk)
      · rw [hw.freshC n j off fun h => hn (hU n h)] at hk; cases hk
    · rw [if_neg hkk]; exact hw.freshC n j off fun h => hn (hU n h)
  · simp only [nilEnv] at h hr
    by_cases hkk : k' = k
    · rw [if_pos hkk] at h; cases h; exact .inl rfl
    · rw [if_neg hkk] at h hr; exact .inr ⟨k', h, hr⟩
  · intro k1 k2 e1 e2 u1 u2 g h1 r1 h2 r2 g1 g2
    simp only [nilEnv] at h1 h2 r1 r2
    by_cases c1 : k1 = k
    · rw [if_pos c1] at h1; cases h1; simp [Value.ownBlock] at g1
    · by_cases c2 : k2 = k
      · rw [if_pos c2] at h2; cases h2; simp [Value.ownBlock] at g2
      · rw [if_neg c1] at h1 r1; rw [if_neg c2] at h2 r2
        exact hw.dist k1 k2 e1 e2 u1 u2 g h1 r1 h2 r2 g1 g2
end
end Go.AI

/-
  THE OPERATIONS (10): append, whole. Nothing here is about one program.
-/
set_option linter.unusedVariables false
set_option linter.unusedSimpArgs false
namespace Go.AI

theorem okCell_one {P : Program} {H : Nat → Nat → Option Value} {k : CT} {c : AV} {v : Value} (h : okCell k c = true) (hc : CR P H c v) : v.oneCell' = true := by
  cases hc <;> first
    | rfl
    | (cases k <;> simp [okCell] at h)
theorem okRow_cell {ks : List CT} {rows : List (List AV)} (h : okRows ks rows = true) {i j : Nat} (hi : i < rows.length) (hj : j < ks.length) : okCell (lget ks j .other) (lget (lget rows i []) j .unk) = true := by
  have h1 := okRows_get h i hi
  exact okCells_get h1 j (by rw [← okCells_length h1]; exact hj)

section
variable {P : Program} {H : Nat → Nat → Option Value} {e : TypeId} {rows : List (List AV)} {cs : Nat → Value}
/-- the cells of rows, as a list -/
def rowCells (cs : Nat → Value) (n : Nat) : List Value := (List.range n).map cs
theorem rowCells_length (cs : Nat → Value) (n : Nat) : (rowCells cs n).length = n := by simp [rowCells]
theorem rowCells_get (cs : Nat → Value) (n k : Nat) (hk : k < n) : (rowCells cs n)[k]? = some (cs k) := by simp [rowCells, hk]
theorem RowsR.one (h : RowsR P H e rows cs) : ∀ u ∈ rowCells cs (rows.length * szOf P e), u.oneCell' = true := by
  intro u hu
  simp only [rowCells, List.mem_map, List.mem_range] at hu
  obtain ⟨k, hk, rfl⟩ := hu
  have hp := h.pos
  have h1 : k / szOf P e < rows.length := Nat.div_lt_of_lt_mul (by rw [Nat.mul_comm]; exact hk)
  have h2 : k % szOf P e < szOf P e := Nat.mod_lt _ hp
  have := h.cr _ _ h1 h2
  rw [show k / szOf P e * szOf P e + k % szOf P e = k from by rw [Nat.mul_comm]; exact Nat.div_add_mod _ _] at this
  exact okCell_one (okRow_cell h.ok h1 (by rw [h.hs]; exact h2)) this
end

section
variable {P : Program} {ρ : FuncId → Fn} {E E' : Env} {S : Start} {M : Mem} {cur cur' : Cur} {U U' : Nat → Prop} {w w' : World} {o : Oper} {a : Act} {n : Nat}

theorem zeroCells_size (z : Array Value) (n : Nat) : (Builtin.zeroCells z n).toList.length = n * z.size := by simp [Builtin.zeroCells]

/-- which right is used, and what it is then -/
def UseR (E : Env) (cur : Cur) (n : Nat) (e : TypeId) (m : Mark) (m' : Mark) (vers : List (Tok × Nat)) : Prop :=
  (m = .nil ∧ m' = .tk (.res n) 0 ∧ vers = []) ∨ (∃ k, m = .tk k (cur k) ∧ m' = .tk k (cur k + 1) ∧ vers = [(k, cur k + 1)])

theorem app_core (hw : WR P E S M cur U w) (hn : ¬ U n) {T : Array TypeId} {t t2 ty e : TypeId} {i : TypeInfo} {z : Value} {d2 : TypeDesc} (hT0 : T[0]? = some t) (hT1 : T[1]? = some t2) (ht : P.underlying t = some (.slice e))
    (h2 : P.underlying t2 = some d2) (hd2 : ∀ k, d2 ≠ .int k) (hi : P.info? e = some i) (hz : i.zero = some z) (hbytes : 1 ≤ i.bytes) (hzs : z.cells.size = i.size)
    {rows rows' : List (List AV)} {m m' : Mark} {vers : List (Tok × Nat)} {x y : Value} {cs' : Nat → Value} (hks : (kindsOf P e).length = szOf P e) (hp : 0 < szOf P e) (hx : TupR P E cur (.lst e rows m) x) (hr : RowsR P E.H e rows' cs')
    (hs : Src P w i.size y rows'.length (rowCells cs' (rows'.length * szOf P e))) (hlen : (rows.length + rows'.length) * i.bytes ≤ 140737488355328) (hm : UseR E cur n e m m' vers) :
    ∃ v' w' E', (Builtin.append_ T ty #[x, y]).run P w = .ok v' w' ∧ Later E cur E' (raise cur vers) ∧ WR P E' S M (raise cur vers) (fun j => U j ∨ j = n) w' ∧ TupR P E' (raise cur vers) (.lst e (rows ++ rows') m') v' := by
  have hsz : szOf P e = i.size := by simp [szOf, hi]
  obtain ⟨hxc, hxm⟩ := inv_lst hx
  obtain ⟨cs, hrow, hshape0⟩ := rows_of_CR hxc hks hp
  have hshape : (x = .slice none 0 0 ∧ rows = []) ∨ ∃ b off cap, x = .slice (some ⟨b, off, none⟩) rows.length cap ∧ rows.length ≤ cap ∧ ∀ k, k < rows.length * szOf P e → E.H b (off + k) = some (cs k) := by
    rcases hshape0 with ⟨a, cap, ex, er, ha⟩ | h
    · cases a with
      | none => exact .inl ⟨by rw [ex, ha rfl], er⟩
      | some ad =>
        right
        rcases hm with ⟨rfl, _, _⟩ | ⟨k, rfl, _, _⟩
        · have hx0 : x = .slice none 0 0 := hxm
          rw [hx0] at ex; cases ex
        · obtain ⟨u, m1, m2, m3⟩ := hxm
          obtain ⟨rfl, m4⟩ := m3 rfl
          rcases (hw.rights k e _ m1 m4).1 with q | ⟨g, n', cap', blk, q, _⟩
          · rw [q] at ex; cases ex
          · rw [q] at ex
            cases ex
            subst er
            exact ⟨g, 0, cap, q, Nat.zero_le _, fun k hk => by simp at hk⟩
    · exact .inr h
  have hall := hrow.append hr
  have hcl : (rowCells cs' (rows'.length * szOf P e)).length = rows'.length * i.size := by rw [rowCells_length, hsz]
  have hfit : (rows.length + rows'.length) * i.bytes ≤ 140737488355328 := hlen
  have hln : rows.length + rows'.length ≤ 140737488355328 := Nat.le_trans (Nat.le_mul_of_pos_right _ hbytes) hfit
  have h63 : ((rows.length + rows'.length : Nat) : Int) ≤ 9223372036854775807 := by omega
  have hfitlen : rows.length + rows'.length ≤ maxLen := Nat.le_trans hln (by decide)
  -- the right
  obtain ⟨k, hk, hver, hcur, hkr, hkc, hm', hrt⟩ : ∃ k : Tok, ((E.own k = none ∧ x = .slice none 0 0) ∨ (E.own k = some (e, x) ∧ E.rt k = true)) ∧ (∀ e0 u0, E.own k = some (e0, u0) → e0 = e ∧ cur k < raise cur vers k) ∧
      (∀ k', k' ≠ k → raise cur vers k' = cur k') ∧ (∀ j, k = .res j → E.own k = none → U j ∨ j = n) ∧ (∀ j q off, E.own k = none → k ≠ .cb j q off) ∧ (∃ ver, m' = .tk k ver ∧ ver ≤ raise cur vers k) ∧ (∀ k', cur k' ≤ raise cur vers k') := by
    rcases hm with ⟨rfl, rfl, rfl⟩ | ⟨k, rfl, rfl, rfl⟩
    · refine ⟨.res n, .inl ⟨hw.freshR n hn, hxm⟩, fun e0 u0 h => ?_, fun _ _ => rfl, fun j h _ => ?_, fun j q off _ h => (by cases h), ⟨0, rfl, Nat.zero_le _⟩, fun _ => Nat.le_refl _⟩
      · rw [hw.freshR n hn] at h; cases h
      · cases h; exact .inr rfl
    · obtain ⟨u, m1, m2, m3⟩ := hxm
      obtain ⟨rfl, m4⟩ := m3 rfl
      refine ⟨k, .inr ⟨m1, m4⟩, fun e0 u0 h => ?_, fun k' hk' => ?_, fun j h h0 => ?_, fun j q off h0 h => ?_, ⟨cur k + 1, rfl, ?_⟩, fun k' => ?_⟩
      · rw [m1] at h; cases h
        rw [raise_one, if_pos rfl]; exact ⟨rfl, Nat.lt_succ_self _⟩
      · rw [raise_one, if_neg hk']
      · rw [m1] at h0; cases h0
      · rw [m1] at h0; cases h0
      · rw [raise_one, if_pos rfl]; exact Nat.le_refl _
      · rw [raise_one]; split
        · rename_i h; subst h; exact Nat.le_succ _
        · exact Nat.le_refl _
  obtain ⟨ver, rfl, hverle⟩ := hm'
  have hkk : E.own k = none ∨ E.rt k = true := by
    rcases hk with h | h
    · exact .inl h.1
    · exact .inr h.2
  have grow : ∀ {base : Option Addr} {cap : Nat}, x = .slice base rows.length cap → (∀ w' : World, w'.heap = w.heap → (Builtin.firstCells i.size rows.length (.slice base rows.length cap)).run P w' = .ok (rowCells cs (rows.length * szOf P e)).toArray w') →
      cap < rows.length + rows'.length →
      ∃ v' w' E', (Builtin.append_ T ty #[x, y]).run P w = .ok v' w' ∧ Later E cur E' (raise cur vers) ∧ WR P E' S M (raise cur vers) (fun j => U j ∨ j = n) w' ∧ TupR P E' (raise cur vers) (.lst e (rows ++ rows') (.tk k ver)) v' := by
    intro base cap ex hold hlt
    have hrun := run_app_grow (P := P) (w := w) (ty := ty) hT0 hT1 ht h2 hd2 hi hz hold hs hlt h63 hfit
    rw [← ex] at hrun
    have hgc := grownCap_ge w (rows.length + rows'.length) cap e
    have hgm := grownCap_le_maxLen w (rows.length + rows'.length) cap e hfitlen
    generalize hG : grownCap w (rows.length + rows'.length) cap e = gc at hrun hgc hgm
    generalize hB : (rowCells cs (rows.length * szOf P e) ++ rowCells cs' (rows'.length * szOf P e) ++ (Builtin.zeroCells z.cells (gc - (rows.length + rows'.length))).toList).toArray = blk at hrun
    have hbs : blk.size = gc * szOf P e := by
      rw [← hB]
      simp only [List.size_toArray, List.length_append, rowCells_length, zeroCells_size, hzs, ← hsz, ← Nat.add_mul]
      congr 1; omega
    have hget : ∀ j, j < (rows ++ rows').length * szOf P e → blk[j]? = some (if j < rows.length * szOf P e then cs j else cs' (j - rows.length * szOf P e)) := by
      intro j hj
      rw [List.length_append, Nat.add_mul] at hj
      rw [← hB, List.getElem?_toArray, List.append_assoc]
      split
      · rename_i c
        rw [List.getElem?_append_left (by rw [rowCells_length]; exact c)]
        exact rowCells_get _ _ _ c
      · rename_i c
        rw [List.getElem?_append_right (by rw [rowCells_length]; omega), List.getElem?_append_left (by rw [rowCells_length, rowCells_length]; omega), rowCells_length]
        exact rowCells_get _ _ _ (by omega)
    have hkr' : ∀ j, k = .res j → U j ∨ j = n := by
      intro j hj
      cases ho : E.own k with
      | none => exact hkr j hj ho
      | some q =>
        by_cases hUj : U j
        · exact .inl hUj
        · have := hw.freshR j hUj; rw [← hj, ho] at this; cases this
    have hkc' : ∀ j q off, k = .cb j q off → U j ∨ j = n := by
      intro j q off hj
      cases ho : E.own k with
      | none => exact absurd hj (hkc j q off ho)
      | some p =>
        by_cases hUj : U j
        · exact .inl hUj
        · have := hw.freshC j q off hUj; rw [← hj, ho] at this; cases this
    have hN := WR.newRow (U' := fun j => U j ∨ j = n) hw (k := k) (e := e) (m := rows.length + rows'.length) (cap := gc) (blk := blk) (w' := w.drew.alloc (.cells blk e)) (cur' := raise cur vers)
      rfl rfl rfl rfl hkk (fun j h => .inl h) hkr' hkc' hver hcur hgc hgm hbs
    obtain ⟨hL, hW⟩ := hN
    refine ⟨_, _, _, hrun, hL, hW, ?_, ?_⟩
    · have := (hall.mono (H' := _) hL.H).lst (b := w.heap.size) (off := 0) (cap := gc) (by rw [List.length_append]; exact hgc) (fun j hj => ?_)
      · rw [List.length_append] at this
        exact this
      · have hj' := hj
        rw [List.length_append] at hj'
        simp only [Nat.zero_add, if_pos, hj']
        exact hget j hj
    · exact ⟨_, if_pos rfl, hverle, fun _ => ⟨rfl, by simp⟩⟩
  rcases hshape with ⟨ex, hr0⟩ | ⟨b, off, cap, ex, hcap, hH⟩
  · -- nothing there
    subst hr0
    by_cases hz0 : rows'.length = 0
    · have hr' : rows' = [] := List.eq_nil_of_length_eq_zero hz0
      subst hr'
      have hrun := run_app_none (P := P) (w := w) (ty := ty) hT0 hT1 ht h2 hd2 hi (y := y) (news := _) hs
      rw [← ex] at hrun
      obtain ⟨hL, hW⟩ := WR.nilRow (U' := fun j => U j ∨ j = n) hw (k := k) (e := e) (cur' := raise cur vers) (by
        rcases hk with h | h
        · exact .inl h.1
        · exact .inr ⟨by rw [h.1, ex], h.2⟩) (fun j h => .inl h) (fun j h h0 => hkr j h h0) (fun j q off h => hkc j q off h) hrt hcur
      refine ⟨x, w, _, hrun, hL, hW, ?_, ?_⟩
      · rw [ex]; exact CR.lnil e none 0 fun _ => rfl
      · exact ⟨.slice none 0 0, by simp [nilEnv], hverle, fun _ => ⟨ex, by simp [nilEnv]⟩⟩
    · refine grow (base := none) (cap := 0) ex (fun w' _ => ?_) (by simp; omega)
      simp [run_firstCells_none, rowCells]
  · -- a row
    have hold : ∀ w' : World, w'.heap = w.heap → (Builtin.firstCells i.size rows.length (.slice (some ⟨b, off, none⟩) rows.length cap)).run P w' = .ok (rowCells cs (rows.length * szOf P e)).toArray w' := by
      intro w' hw'
      refine run_firstCells_some (P := P) w' i.size rows.length ⟨b, off, none⟩ rows.length cap _ (by rw [rowCells_length, hsz]) fun j v hj => ?_
      have hjl : j < rows.length * szOf P e := by
        have := (List.getElem?_eq_some_iff.1 hj).1
        rwa [rowCells_length] at this
      rw [rowCells_get _ _ _ hjl] at hj
      cases hj
      rw [Addr.add_mid, World.cell?_of_block (w := w) (a := ⟨b, off + j, none⟩) (by rw [hw'])]
      exact hw.heap _ _ _ (hH j hjl)
    by_cases hroom : rows.length + rows'.length ≤ cap
    · rcases hk with ⟨_, h⟩ | ⟨hk1, hk2⟩
      · rw [ex] at h; cases h
      obtain ⟨q1, _⟩ := hw.rights k _ _ hk1 hk2
      rcases q1 with q1 | ⟨g, n', cap', blk, q0, p1, p2, p3, p4, p5, p6⟩
      · rw [ex] at q1; cases q1
      rw [ex] at q0; cases q0
      have hone := hr.one
      have hfit2 : rows.length * i.size + (rowCells cs' (rows'.length * szOf P e)).length ≤ blk.size := by
        rw [hcl, p4, ← Nat.add_mul, hsz]; exact Nat.mul_le_mul_right _ hroom
      have hrun := run_app_room (P := P) (w := w) (ty := ty) hT0 hT1 ht h2 hd2 hi p1 hs hcl hone hroom hfit2
      rw [← ex] at hrun
      generalize hB : (List.take (rows.length * i.size) blk.toList ++ rowCells cs' (rows'.length * szOf P e) ++ List.drop (rows.length * i.size + (rowCells cs' (rows'.length * szOf P e)).length) blk.toList).toArray = blk' at hrun
      have hbl : rows.length * i.size ≤ blk.toList.length := by simp; omega
      have hbs : blk'.size = blk.size := by
        rw [← hB]; simp only [List.size_toArray, List.length_append, List.length_take, List.length_drop, Nat.min_eq_left hbl]
        simp at hbl ⊢; omega
      have hkeep : ∀ j, j < rows.length * szOf P e → blk'[j]? = blk[j]? := by
        intro j hj
        rw [hsz] at hj
        rw [← hB, List.getElem?_toArray, List.append_assoc, List.getElem?_append_left (by simp; omega), List.getElem?_take, if_pos hj]
        simp
      have hnew : ∀ j, j < rows'.length * szOf P e → blk'[rows.length * szOf P e + j]? = some (cs' j) := by
        intro j hj
        rw [hsz] at hj
        rw [hsz, ← hB, List.getElem?_toArray, List.append_assoc, List.getElem?_append_right (by rw [List.length_take, Nat.min_eq_left hbl]; omega), List.length_take, Nat.min_eq_left hbl,
          List.getElem?_append_left (by rw [rowCells_length, hsz]; omega), show rows.length * i.size + j - rows.length * i.size = j from by omega]
        rw [← hsz] at hj
        exact rowCells_get _ _ _ hj
      rw [ex] at hk1
      obtain ⟨hL, hW⟩ := WR.growRow (U' := fun j => U j ∨ j = n) hw hk1 hk2 p1 (Nat.le_add_right _ _) hroom hbs hkeep (fun j h => .inl h) (hver _ _ hk1).2 hcur
      refine ⟨_, _, _, hrun, hL, hW, ?_, ?_⟩
      · have := (hall.mono (H' := _) hL.H).lst (b := b) (off := 0) (cap := cap) (by rw [List.length_append]; exact hroom) (fun j hj => ?_)
        · rw [List.length_append] at this
          exact this
        · rw [List.length_append] at hj
          simp only [Nat.zero_add, true_and]
          by_cases c : j < rows.length * szOf P e
          · rw [if_neg (by omega), if_pos c]
            have := hH j c
            rwa [Nat.zero_add] at this
          · rw [if_pos (by omega), if_pos hj, if_neg c]
            rw [Nat.add_mul] at hj
            have := hnew (j - rows.length * szOf P e) (by omega)
            rwa [show rows.length * szOf P e + (j - rows.length * szOf P e) = j from by omega] at this
      · exact ⟨_, if_pos rfl, hverle, fun _ => ⟨rfl, hk2⟩⟩
    · exact grow (base := some ⟨b, off, none⟩) (cap := cap) ex hold (by omega)

theorem src_lst (hw : WR P E S M cur U w) {e : TypeId} {i : TypeInfo} {rows : List (List AV)} {y : Value} (hi : P.info? e = some i) (h : CR P E.H (.lst e rows .view) y) (hks : (kindsOf P e).length = szOf P e) (hp : 0 < szOf P e) :
    ∃ cs, RowsR P E.H e rows cs ∧ Src P w i.size y rows.length (rowCells cs (rows.length * szOf P e)) := by
  have hsz : szOf P e = i.size := by simp [szOf, hi]
  obtain ⟨cs, hrow, hsh⟩ := rows_of_CR h hks hp
  refine ⟨cs, hrow, fun w' hw' => ?_⟩
  rcases hsh with ⟨a, cap, rfl, rfl, ha⟩ | ⟨b, off, cap, rfl, hcap, hH⟩
  · cases a with
    | none => obtain rfl := ha rfl; exact ⟨by simp [Builtin.lenOf], by simp [run_firstCells_none, rowCells]⟩
    | some ad =>
      refine ⟨by simp [Builtin.lenOf], ?_⟩
      have := run_firstCells_some (P := P) w' i.size 0 ad 0 cap [] (by simp) fun j v hj => by simp at hj
      simpa [rowCells] using this
  · refine ⟨by simp [Builtin.lenOf], run_firstCells_some (P := P) w' i.size rows.length ⟨b, off, none⟩ rows.length cap _ (by rw [rowCells_length, hsz]) fun j v hj => ?_⟩
    have hjl : j < rows.length * szOf P e := by
      have := (List.getElem?_eq_some_iff.1 hj).1
      rwa [rowCells_length] at this
    rw [rowCells_get _ _ _ hjl] at hj
    cases hj
    rw [Addr.add_mid, World.cell?_of_block (w := w) (a := ⟨b, off + j, none⟩) (by rw [hw'])]
    exact hw.heap _ _ _ (hH j hjl)

theorem byteRows_length : ∀ l : List UInt8, (byteRows l).length = l.length
  | [] => rfl
  | c :: l => by simp [byteRows, byteRows_length l]
theorem byteRows_get : ∀ (l : List UInt8) (i : Nat), i < l.length → lget (byteRows l) i [] = [.i .u8 ((lget l i 0).toNat : Int)]
  | c :: l, 0, _ => rfl
  | c :: l, i + 1, h => by simp only [byteRows, lget]; exact byteRows_get l i (by simpa using h)
theorem byteRows_ok : ∀ l : List UInt8, okRows [.int .u8] (byteRows l) = true
  | [] => rfl
  | c :: l => by simp [byteRows, okRows, okCells, okCell, byteRows_ok l]
theorem rows_bytes {H : Nat → Nat → Option Value} {e : TypeId} (l : List UInt8) (hk : kindsOf P e = [.int .u8]) (hs : (kindsOf P e).length = szOf P e) : RowsR P H e (byteRows l) (fun j => .int .u8 ((lget l j 0).toNat : Int)) := by
  have h1 : szOf P e = 1 := by rw [← hs, hk]; rfl
  refine ⟨by rw [hk]; exact byteRows_ok l, hs, by omega, fun i j hi hj => ?_⟩
  rw [byteRows_length] at hi
  have hj0 : j = 0 := by omega
  subst hj0
  rw [byteRows_get l i hi, h1]
  simp only [lget, Nat.mul_one, Nat.add_zero]
  exact CR.int _ _
theorem src_str {e : TypeId} {i : TypeInfo} (l : List UInt8) (h1 : szOf P e = 1) : Src P w i.size (.string ⟨l.toArray⟩) l.length (rowCells (fun j => .int .u8 ((lget l j 0).toNat : Int)) (l.length * szOf P e)) := by
  intro w' _
  refine ⟨by simp [Builtin.lenOf, size_mk], ?_⟩
  have := Lib.run_firstCells_string (P := P) w' i.size ⟨l.toArray⟩
  rw [size_mk] at this
  rw [this]
  congr 2
  rw [h1, Nat.mul_one]
  refine List.ext_getElem? fun j => ?_
  simp only [Lib.strCells, rowCells, List.getElem?_map]
  by_cases hj : j < l.length
  · simp [hj, lget_eq, List.getD]
  · simp [hj]

theorem ok_append (hw : WR P E S M cur U w) (hn : ¬ U n) {x y : Operand} {T : Array TypeId} (ho : o.op = .call { callee := .builtin .append, args := #[x, y], argTypes := T }) (hT : 1 < T.size) {u v : AV} (hx : TupR P E cur u (a.eval x)) (hy : TupR P E cur v (a.eval y)) :
    RdOK P ρ E S M cur U w o a n (oAppend P (T.getD 0 0) (T.getD 1 0) n u v) := by
  obtain ⟨consts, hb⟩ := run_builtin (P := P) (w := w) (a := a) ho
  have hT0 := argType (T := T) (j := 0) (by omega)
  have hT1 := argType (T := T) (j := 1) hT
  generalize T.getD 0 0 = t at hT0 ⊢
  generalize T.getD 1 0 = t2 at hT1 ⊢
  unfold oAppend
  split
  · rename_i e e' rows m he
    refine RdOK.cond (fun hc => ?_) fun _ => RdOK.fail
    simp only [Bool.and_eq_true] at hc
    obtain ⟨⟨⟨c1, c2⟩, c3⟩, c4⟩ := hc
    have := Nat.eq_of_beq_eq_true c1
    subst this
    have hp : 0 < szOf P e := Nat.le_of_ble_eq_true c2
    have hks := Nat.eq_of_beq_eq_true c3
    cases hi : P.info? e with
    | none => simp [hi] at c4
    | some i =>
      simp only [hi, Bool.and_eq_true] at c4
      obtain ⟨c5, c6⟩ := c4
      have hbytes := Nat.le_of_ble_eq_true c5
      have hbt : bytesOfT P e = i.bytes := by simp [bytesOfT, hi]
      cases hz : i.zero with
      | none => simp [hz] at c6
      | some z =>
        simp only [hz] at c6
        have hzs := Nat.eq_of_beq_eq_true c6
        have ht : P.underlying t = some (.slice e) := by
          unfold elemOf at he
          split at he
          · rename_i e0 h; cases he; exact h
          · cases he
        have fin : ∀ {rows' : List (List AV)} {cs' : Nat → Value} {d2 : TypeDesc}, P.underlying t2 = some d2 → (∀ k, d2 ≠ .int k) → RowsR P E.H e rows' cs' → Src P w i.size (a.eval y) rows'.length (rowCells cs' (rows'.length * szOf P e)) →
            (rows.length + rows'.length) * i.bytes ≤ 140737488355328 → RdOK P ρ E S M cur U w o a n (useTok n m fun m' vers => .ret (.lst e (rows ++ rows') m') [] vers) := by
          intro rows' cs' d2 h2 hd2 hr hs hlen
          have done : ∀ {m' : Mark} {vers : List (Tok × Nat)}, UseR E cur n e m m' vers → RdOK P ρ E S M cur U w o a n (.ret (.lst e (rows ++ rows') m') [] vers) := by
            intro m' vers hm
            refine RdOK.ret fun rds tks => ?_
            obtain ⟨v', w', E', h1, h2', h3, h4⟩ := app_core (ty := o.type) hw hn hT0 hT1 ht h2 hd2 hi hz hbytes hzs hks hp hx hr hs hlen hm
            have hrun : (execOp a.eval o).run P w = .ok (.value v') w' := by
              rw [hb]; simp [builtin, h1]
            exact does_val hrun ⟨E', h2', h3, h4⟩
          unfold useTok
          split
          · exact RdOK.fail
          · exact done (.inl ⟨rfl, rfl, rfl⟩)
          · rename_i k ver
            refine RdOK.tok (RdOK.cond (fun hcu => ?_) fun _ => RdOK.fail)
            have hcu' := Nat.eq_of_beq_eq_true hcu
            exact done (.inr ⟨k, by rw [hcu'], by rw [hcu'], by rw [hcu']⟩)
        split
        · rename_i e2 r m2
          refine RdOK.cond (fun hc => ?_) fun _ => RdOK.fail
          simp only [Bool.and_eq_true] at hc
          have h1 := Nat.eq_of_beq_eq_true hc.1
          have h2 := Nat.eq_of_beq_eq_true hc.2
          subst h1; subst h2
          refine RdOK.guard fun hg => ?_
          obtain ⟨cs', hr, hs⟩ := src_lst hw hi (inv_lst hy).1 hks hp
          exact fin ht (fun k h => by cases h) hr hs (by rw [← hbt]; exact Nat.le_of_ble_eq_true hg)
        · rename_i l
          refine RdOK.cond (fun hc => ?_) fun _ => RdOK.fail
          simp only [Bool.and_eq_true, decide_eq_true_eq] at hc
          obtain ⟨⟨_, h1⟩, h2⟩ := hc
          refine RdOK.guard fun hg => ?_
          have hst : P.underlying t2 = some .string := by
            revert h2
            cases P.underlying t2 with
            | none => simp
            | some d => cases d <;> simp
          have h3 : szOf P e = 1 := by rw [← hks, h1]; rfl
          have hr := rows_bytes (P := P) (H := E.H) l h1 hks
          have hs := src_str (P := P) (w := w) (i := i) l h3
          rw [← inv_s hy, ← byteRows_length l] at hs
          exact fin hst (fun k h => by cases h) hr hs (by rw [byteRows_length, ← hbt]; exact Nat.le_of_ble_eq_true hg)
        · exact RdOK.fail
  · exact RdOK.fail
end
end Go.AI

/-
  THE OPERATIONS (11): texts into bytes, struct and slice literals, function values. Nothing here is about one program.
-/
set_option linter.unusedVariables false
set_option linter.unusedSimpArgs false
namespace Go.AI

section
variable {P : Program} {ρ : FuncId → Fn} {E E' : Env} {S : Start} {M : Mem} {cur cur' : Cur} {U U' : Nat → Prop} {w w' : World} {o : Oper} {a : Act} {n : Nat}

/-- new memory that nobody will write and nobody has a right to -/
theorem WR.newFix (hw : WR P E S M cur U w) (hs : ∀ b, b < w.heap.size → w'.heap[b]? = w.heap[b]?) (hz : w'.heap.size = w.heap.size + 1) (h1 : w'.os = w.os) (h2 : w'.tape = w.tape) (h3 : w'.output = w.output)
    {f : Nat → Option Value} (hf : ∀ o v, f o = some v → w'.cell? ⟨w.heap.size, o, none⟩ = some v) :
    Later E cur { E with H := fun b o => if b = w.heap.size then f o else E.H b o } cur ∧ WR P { E with H := fun b o => if b = w.heap.size then f o else E.H b o } S M cur U w' := by
  have hW := hw.world hs (by omega) h1 h2 h3
  have hno : ∀ o, E.H w.heap.size o = none := fun o => by
    cases h : E.H w.heap.size o with
    | none => rfl
    | some v => exact absurd (World.block_lt_of_cell? w _ (hw.heap _ _ _ h)) (by simp)
  have hL : Later E cur { E with H := fun b o => if b = w.heap.size then f o else E.H b o } cur := by
    refine ⟨fun b o v h => ?_, fun _ _ h => h, fun k e u h => ⟨u, h, Nat.le_refl _, fun _ => ⟨rfl, id⟩⟩, fun _ _ _ h => h⟩
    simp only
    rw [if_neg fun e => by subst e; rw [hno] at h; cases h]
    exact h
  refine ⟨hL, ?_⟩
  refine
    { mem := fun id x h => ?_, inj := hW.inj, bnd := fun i b h => ?_, freshβ := hW.freshβ, freshR := hW.freshR, freshC := hW.freshC,
      heap := ?_, ext := fun b o v h => hL.H b o v (hw.ext b o v h), acc := ?_, rights := ?_, dist := hW.dist, os := hW.os, tape := hW.tape, output := hW.output, size := hW.size, frame := hW.frame }
  · obtain ⟨b, hb, ho⟩ := hW.mem id x h
    exact ⟨b, hb, ho.later hL⟩
  · obtain ⟨q1, q2, q3⟩ := hw.bnd i b h
    refine ⟨by omega, fun o => ?_, q3⟩
    simp only
    rw [if_neg (by omega)]
    exact q2 o
  · intro b o v h
    simp only at h
    split at h
    · rename_i hb; subst hb; exact hf o v h
    · exact hW.heap b o v h
  · intro b o v h
    simp only at h
    split at h
    · rename_i hb; subst hb; exact .inr (.inr hw.size)
    · exact hw.acc b o v h
  · intro k e u h hr
    obtain ⟨q1, q2⟩ := hW.rights k e u h hr
    refine ⟨?_, q2⟩
    rcases q1 with q1 | ⟨g, m, cap, blk, rfl, p1, p2, p3, p4, p5, p6⟩
    · exact .inl q1
    · refine .inr ⟨g, m, cap, blk, rfl, p1, p2, p3, p4, fun o v hv => ?_, p6⟩
      simp only at hv
      have : g ≠ w.heap.size := by have := ((hw.rights k _ _ h hr).1.lt (g := g) rfl).1; omega
      rw [if_neg this] at hv
      exact p5 o v hv

theorem ok_conv_bytes (hw : WR P E S M cur U w) {s d e : TypeId} {x : Operand} (ho : o.op = .convert s d x) {l : List UInt8} {ds : TypeDesc} (hs : P.underlying s = some ds) (hd : P.underlying d = some (.slice e))
    (he : isU8 P e = true) (hk : kindsOf P e = [.int .u8]) (h1 : szOf P e = 1) (hx : TupR P E cur (.s l) (a.eval x)) : RdOK P ρ E S M cur U w o a n (AI.pv (.lst e (byteRows l) .view)) := by
  refine RdOK.ret fun rds tks => ?_
  have hrun := Lib.run_convert_string_bytes (P := P) w s d e ⟨l.toArray⟩ hs hd (isU8_spec he)
  rw [size_mk] at hrun
  have hcl : ∀ j, j < l.length → (Lib.bytesWorld w e ⟨l.toArray⟩).cell? ⟨w.heap.size, j, none⟩ = some (.int .u8 ((lget l j 0).toNat : Int)) := by
    intro j hj
    have := Lib.bytesWorld_cell w e ⟨l.toArray⟩ j (by rw [size_mk]; exact hj)
    rw [this, lget_eq]
  obtain ⟨hL, hW⟩ := hw.newFix (w' := Lib.bytesWorld w e ⟨l.toArray⟩) (fun b hb => Lib.bytesWorld_at_old w e _ b hb) (Lib.bytesWorld_size w e _) rfl rfl rfl
    (f := fun j => if j < l.length then some (.int .u8 ((lget l j 0).toNat : Int)) else none) (fun j v h => by
      split at h
      · cases h; exact hcl j (by assumption)
      · cases h)
  refine does_val (v := .slice (some ⟨w.heap.size, 0, none⟩) l.length (grownCap w l.length 0 e)) (w' := Lib.bytesWorld w e ⟨l.toArray⟩) ?_ ⟨_, hL, hW.more fun _ h => .inl h, ?_, trivial⟩
  · simp [execOp, ho, inv_s hx, hrun]
  · have hr := rows_bytes (P := P) (H := fun b o => if b = w.heap.size then (if o < l.length then some (Value.int .u8 ((lget l o 0).toNat : Int)) else none) else E.H b o) l hk (by rw [hk, h1]; rfl)
    have hgc := grownCap_ge w l.length 0 e
    have := hr.lst (b := w.heap.size) (off := 0) (cap := grownCap w l.length 0 e) (by rw [byteRows_length]; exact hgc) (fun j hj => by
      rw [byteRows_length, h1, Nat.mul_one] at hj
      simp [hj])
    rw [byteRows_length] at this
    exact this

theorem ok_conv (hw : WR P E S M cur U w) {s d : TypeId} {x : Operand} (ho : o.op = .convert s d x) {v : AV} (hx : TupR P E cur v (a.eval x)) : RdOK P ρ E S M cur U w o a n (oConv P s d v) := by
  unfold oConv
  split
  · rename_i ds k k' m hs hd
    exact ok_conv_int hw ho hs hd hx
  · rename_i ds l hs hd
    exact ok_conv_str hw ho hs hd hx
  · rename_i ds e l hs hd
    refine RdOK.cond (fun hc => ?_) fun _ => RdOK.fail
    simp only [Bool.and_eq_true, decide_eq_true_eq] at hc
    exact ok_conv_bytes hw ho hs hd hc.1.1.1 hc.1.1.2 (Nat.eq_of_beq_eq_true hc.1.2) hx
  · rename_i e' e rows m hs hd
    refine RdOK.cond (fun hc => ?_) fun _ => RdOK.fail
    simp only [Bool.and_eq_true, decide_eq_true_eq] at hc
    have h2 := Nat.eq_of_beq_eq_true hc.1.1.2
    subst h2
    exact ok_conv_text hw ho hs hd (isU8_spec hc.1.1.1) (Nat.eq_of_beq_eq_true hc.1.2) hc.2 hx
  · exact RdOK.fail

theorem ok_makeFunc (hw : WR P E S M cur U w) {f : FuncId} {first cap : Array Operand} (ho : o.op = .makeFunc (.func f) first cap) {vs : List AV} (hv : All2 (TupR P E cur) vs ((first ++ cap).toList.map a.eval)) (hc : simples vs = true) :
    RdOK P ρ E S M cur U w o a n (AI.pv (.fn f (List.take first.size vs) (ldrop first.size vs))) := by
  have hsimp : ∀ {l : List AV} {us : List Value}, simples l = true → All2 (TupR P E cur) l us → All2 (SimpR P E) l us := by
    intro l
    induction l with
    | nil => intro us _ h; rw [h.nil_left]; trivial
    | cons x l ih =>
      intro us hs h
      obtain ⟨u, us', rfl, h1, h2⟩ := h.cons_left
      simp only [simples] at hs
      cases hx : simple1 x
      · simp [hx] at hs
      · simp only [hx, cond_true] at hs
        refine ⟨?_, ih hs h2⟩
        cases x <;> simp only [simple1] at hx <;> first
          | (cases hx; done)
          | exact h1
          | exact h1.1
          | skip
        rename_i f' p q
        cases p <;> cases q <;> simp [simple1] at hx
        obtain ⟨a', c', rfl, ha, hc⟩ := inv_fn h1
        rw [ha.nil_left, hc.nil_left]
        exact CR.fn f'
  refine RdOK.pv hw (v' := .func (.func f) (first.map a.eval) (cap.map a.eval)) ?_ ?_
  · simp [execOp, ho, Instr.makeFunc]
  · have h := hsimp hc hv
    have h1 := h.take first.size
    have h2 := h.drop first.size
    simp only [Array.toList_append, List.map_append] at h1 h2
    rw [List.take_left' (by simp)] at h1
    rw [List.drop_left' (by simp)] at h2
    rw [ldrop_eq]
    exact ⟨(first.map a.eval).toList, (cap.map a.eval).toList, rfl, by simpa using h1, by simpa using h2⟩

theorem closed_CR {x : AV} {v : Value} (hc : closedV x = true) (hx : TupR P E cur x v) : CR P E.H x v := by
  have one : ∀ {y : AV} {u : Value}, closed1 y = true → CellR P E cur y u → CR P E.H y u := by
    intro y u hy h
    cases y <;> simp only [closed1] at hy <;> first
      | (cases hy; done)
      | exact h
      | skip
    · rename_i e r m
      cases m <;> simp [closed1] at hy
      exact h.1
    · rename_i f p q
      cases p <;> cases q <;> simp [closed1] at hy
      obtain ⟨a', c', rfl, ha, hc⟩ := h
      rw [ha.nil_left, hc.nil_left]
      exact CR.fn f
  cases x <;> first
    | exact one hc hx
    | (simp [closedV, closed1] at hc; done)
    | skip
  · rename_i cs
    obtain ⟨vs, rfl, h⟩ := inv_agg hx
    refine CR.agg cs vs h.length fun j hj => ?_
    have : ∀ {l : List AV}, closedL l = true → ∀ j, j < l.length → closed1 (lget l j .unk) = true := by
      intro l
      induction l with
      | nil => intro _ j hj; simp at hj
      | cons y l ih =>
        intro hl j hj
        simp only [closedL] at hl
        cases hy : closed1 y
        · simp [hy] at hl
        · simp only [hy, cond_true] at hl
          cases j with
          | zero => exact hy
          | succ j => exact ih hl j (by simpa using hj)
    exact one (this hc j hj) (h.get j .unk undef hj)

theorem ok_makeInterface' (hw : WR P E S M cur U w) {t : TypeId} {x : Operand} (ho : o.op = .makeInterface t x) {v : AV} (hx : TupR P E cur v (a.eval x)) :
    RdOK P ρ E S M cur U w o a n (cond (concrete P t && closedV (argV v)) (AI.pv (.iface t (argV v))) .fail) := by
  refine RdOK.cond (fun hc => ?_) fun _ => RdOK.fail
  simp only [Bool.and_eq_true] at hc
  have hv : TupR P E cur (argV v) (a.eval x) := by
    cases v <;> first
      | exact tupR_of_val (plain_tup hx)
      | (simp [argV, plain, closedV, closed1] at hc)
  refine ok_makeInterface hw ho (closed_CR hc.2 hv) rfl ?_
  unfold concrete at hc
  cases hd : P.underlying t with
  | none => simp [hd] at hc
  | some d =>
    refine ⟨d, rfl, fun ms h => ?_⟩
    subst h
    simp [hd] at hc
end

/-! ### struct and slice literals -/
section
variable {P : Program} {ρ : FuncId → Fn} {E E' : Env} {S : Start} {M : Mem} {cur cur' : Cur} {U U' : Nat → Prop} {w w' : World} {o : Oper} {a : Act} {n : Nat}

theorem fold_lput (off : Nat) (l : List Value) (cs : List Value) (h : off + l.length ≤ cs.length) :
    (l.toArray.zipIdx.foldl (fun cs (x : Value × Nat) => cs.setIfInBounds (off + x.2) x.1) cs.toArray) = (lput off l cs).toArray := by
  have h1 := Great.foldl_set off l 0 cs.toArray
  have h2 : l.toArray.zipIdx.foldl (fun cs (x : Value × Nat) => cs.setIfInBounds (off + x.2) x.1) cs.toArray = (l.zipIdx 0).foldl (fun cs (x : Value × Nat) => cs.setIfInBounds (off + x.2) x.1) cs.toArray := by
    rw [← Array.foldl_toList]; simp
  rw [h2]
  refine Array.ext_getElem? fun k => ?_
  rw [h1.2 k, lput_eq off l cs h]
  simp only [List.getElem?_toArray, List.append_assoc, List.size_toArray]
  by_cases c1 : k < off
  · rw [if_neg (by omega), List.getElem?_append_left (by simp; omega), List.getElem?_take, if_pos c1]
  · by_cases c2 : k < off + l.length
    · rw [if_pos ⟨by omega, by omega, by omega⟩, List.getElem?_append_right (by simp; omega), List.getElem?_append_left (by simp; omega)]
      congr 1; simp; omega
    · rw [if_neg (by omega), List.getElem?_append_right (by simp; omega), List.getElem?_append_right (by simp; omega), List.getElem?_drop]
      congr 1; simp; omega

theorem fillA_ok (place : Nat → Option (Nat × Nat)) : ∀ {ps : List (Nat × AV)} {qs : List (Nat × Value)} {cells : List AV} {vs : List Value} {cs : List AV}, All2 (fun p q => p.1 = q.1 ∧ TupR P E cur p.2 q.2) ps qs → All2 (CellR P E cur) cells vs → fillA place cells ps = some cs →
    ∃ vs', Instr.fill place vs.toArray qs = some vs'.toArray ∧ All2 (CellR P E cur) cs vs'
  | [], qs, cells, vs, cs, hp, hc, h => by
    rw [hp.nil_left]
    simp only [fillA] at h; cases h
    exact ⟨vs, rfl, hc⟩
  | (i, x) :: ps, qs, cells, vs, cs, hp, hc, h => by
    obtain ⟨⟨i', v⟩, qs', rfl, ⟨hi, hx⟩, hrest⟩ := hp.cons_left
    simp only at hi hx
    subst hi
    simp only [fillA] at h
    cases hpl : place i with
    | none => simp [hpl] at h
    | some os =>
      obtain ⟨off, size⟩ := os
      simp only [hpl] at h
      cases hcd : (Nat.beq x.cells.length size && Nat.ble (off + x.cells.length) cells.length && boxables x.cells)
      · simp [hcd] at h
      · simp only [hcd, cond_true] at h
        simp only [Bool.and_eq_true] at hcd
        obtain ⟨⟨c1, c2⟩, c3⟩ := hcd
        have e1 := Nat.eq_of_beq_eq_true c1
        have e2 := Nat.le_of_ble_eq_true c2
        have hcr := cells_rel hx c3
        have hl := hcr.length
        have hl2 := hc.length
        obtain ⟨vs', h1, h2⟩ := fillA_ok place hrest (All2.lput off (aggPlain_cells hcr) hc) h
        refine ⟨vs', ?_, h2⟩
        have hsz : v.cells.size = v.cells.toList.length := by simp
        simp only [Instr.fill, hpl]
        rw [if_neg (by simp only [ne_eq, gt_iff_lt, Bool.or_eq_true, decide_eq_true_eq, not_or, Decidable.not_not, Nat.not_lt, List.size_toArray]; omega)]
        have hfl := fold_lput off v.cells.toList vs (by omega)
        simp only [Array.toArray_toList] at hfl
        rw [hfl]
        exact h1

theorem pairUp_ok : ∀ {ps : List (Nat × Operand)} {vs : List AV}, All2 (TupR P E cur) vs ((ps.map (·.2)).map a.eval) → All2 (fun p q => p.1 = q.1 ∧ TupR P E cur p.2 q.2) (pairUp ps vs) (ps.map fun x => (x.1, a.eval x.2))
  | [], vs, h => by
    cases vs with
    | nil => trivial
    | cons v vs => exact h.elim
  | (i, x) :: ps, vs, h => by
    cases vs with
    | nil => exact h.elim
    | cons v vs => exact ⟨⟨rfl, h.1⟩, pairUp_ok h.2⟩

theorem mapM_places : ∀ {fs : List Field}, (fs.all fun f => (P.info? f.type).isSome) = true → fs.mapM (fun f => (P.info? f.type).map fun i => (f.offset, i.size)) = some (fs.map fun f => (f.offset, szOf P f.type))
  | [], _ => by simp
  | f :: fs, h => by
    simp only [List.all_cons, Bool.and_eq_true] at h
    obtain ⟨i, hi⟩ := Option.isSome_iff_exists.1 h.1
    simp [List.mapM_cons, hi, mapM_places h.2, szOf]

theorem ok_build (hw : WR P E S M cur U w) {t : TypeId} {parts : Array (Nat × Operand)} (ho : o.op = .build t parts) {vs : List AV} (hv : All2 (TupR P E cur) vs ((parts.toList.map (·.2)).map a.eval)) :
    RdOK P ρ E S M cur U w o a n (oBuild P t (pairUp parts.toList vs)) := by
  have hp := pairUp_ok (a := a) hv
  have go : ∀ {cs : List AV} {us : List Value}, P.built t (parts.toList.map fun x => (x.1, a.eval x.2)) = some us.toArray → All2 (CellR P E cur) cs us → ∃ v', (execOp a.eval o).run P w = .ok (.value v') w ∧ TupR P E cur (.agg cs) v' := by
    intro cs us h1 h2
    have := run_build w t (parts.map fun (i, x) => (i, a.eval x)) us.toArray (by simpa using h1)
    exact ⟨.agg us.toArray, by simp [execOp, ho, this], us, rfl, h2⟩
  unfold oBuild
  split
  · exact RdOK.fail
  · rename_i z hz
    obtain ⟨i, zv, hi, hzv, hc, _, _⟩ := zeroOf_ok (P := P) (E := E) (cur := cur) hz
    split
    · rename_i fs hu
      refine RdOK.cond (fun hall => ?_) fun _ => RdOK.fail
      refine RdOK.po hw fun x hx => ?_
      cases hf : fillA (fun i => (fs[i]?).map fun f => (f.offset, szOf P f.type)) z (pairUp parts.toList vs) with
      | none => simp [hf] at hx
      | some cs =>
        simp [hf] at hx; subst hx
        obtain ⟨us, h1, h2⟩ := fillA_ok _ hp hc hf
        refine go ?_ h2
        unfold Program.built
        simp only [hi, hu, hzv, mapM_places hall]
        rw [Array.toArray_toList] at h1
        rw [← h1]
        congr 1
        funext j
        simp
    · rename_i len e hu
      refine RdOK.cond (fun hinfo => ?_) fun _ => RdOK.fail
      refine RdOK.po hw fun x hx => ?_
      cases hf : fillA (fun i => some (i * szOf P e, szOf P e)) z (pairUp parts.toList vs) with
      | none => simp [hf] at hx
      | some cs =>
        simp [hf] at hx; subst hx
        obtain ⟨us, h1, h2⟩ := fillA_ok _ hp hc hf
        refine go ?_ h2
        obtain ⟨ie, hie⟩ := Option.isSome_iff_exists.1 hinfo
        unfold Program.built
        simp only [hi, hu, hzv, hie]
        rw [Array.toArray_toList] at h1
        rw [← h1]
        simp [szOf, hie]
    · exact RdOK.fail

theorem run_buildSlice0 (w : World) (t e : TypeId) (len : Nat) (parts : Array (Nat × Value)) (cells : Array Value) (ie : TypeInfo) (z : Value)
    (hu : P.underlying t = some (.slice e)) (hie : P.info? e = some ie) (hz : ie.zero = some z) (hsmall : ¬ len * ie.size > 2 ^ 24)
    (h : Instr.fill (fun i => some (i * ie.size, ie.size)) ((Array.range (len * ie.size)).map (z.cells[· % z.cells.size]!)) parts.toList = some cells) :
    (Instr.buildSlice t len parts).run P w = .ok (.slice (some ⟨w.heap.size, 0, none⟩) len len) (w.alloc (.cells cells e)) := by
  by_cases hpos : len * ie.size = 0
  · rw [hpos] at h
    have h' : Instr.fill (fun i => some (i * ie.size, ie.size)) (Array.map (fun x => (#[] : Array Value)[x % 0]!) (Array.range 0)) parts.toList = some cells := by
      rw [← h]; congr 1; simp
    simp [Instr.buildSlice, run_underlying hu, sizeOf, typeInfo, zeroValue, hie, hz, hpos, newRow]
    simp at h'
    simp [h']
  · exact run_buildSlice w t e len parts cells ie z hu hie hz hsmall hpos h

theorem lget_drop_take {α : Type} (l : List α) (p q j : Nat) (d : α) (hj : j < q) : lget ((l.drop p).take q) j d = lget l (p + j) d := by
  rw [lget_eq, lget_eq]
  simp [List.getD, hj]

theorem ok_buildSlice (hw : WR P E S M cur U w) (hn : ¬ U n) {t : TypeId} {len : Nat} {parts : Array (Nat × Operand)} (ho : o.op = .buildSlice t len parts) {vs : List AV} (hv : All2 (TupR P E cur) vs ((parts.toList.map (·.2)).map a.eval)) :
    RdOK P ρ E S M cur U w o a n (oBuildSlice P t n len (pairUp parts.toList vs)) := by
  have hp := pairUp_ok (a := a) hv
  unfold oBuildSlice
  split
  · exact RdOK.fail
  · rename_i e he
    have ht : P.underlying t = some (.slice e) := by
      unfold elemOf at he
      split at he
      · rename_i e0 h; cases he; exact h
      · cases he
    split
    · exact RdOK.fail
    · rename_i z hz
      obtain ⟨i, zv, hi, hzv, hc, hzb, _⟩ := zeroOf_ok (P := P) (E := E) (cur := cur) hz
      have hsz : szOf P e = i.size := by simp [szOf, hi]
      split
      · exact RdOK.fail
      · rename_i cs hf
        refine RdOK.cond (fun hcd => ?_) fun _ => RdOK.fail
        simp only [Bool.and_eq_true] at hcd
        obtain ⟨⟨⟨⟨c1, c2⟩, c3⟩, c4⟩, c5⟩ := hcd
        have e2 := Nat.le_of_ble_eq_true c2
        have e4 := Nat.eq_of_beq_eq_true c4
        have e5 := Nat.eq_of_beq_eq_true c5
        have hp0 : 0 < szOf P e := by
          rcases Nat.eq_zero_or_pos (szOf P e) with h | h
          · rw [h] at c3; simp at c3
          · exact h
        have hzl := hc.length
        have hzs : zv.cells.size = szOf P e := by rw [← e5, hzl]; simp
        have hbase : All2 (CellR P E cur) ((List.range (len * szOf P e)).map fun j => lget (aggPlain z) (j % szOf P e) .unk) ((Array.range (len * szOf P e)).map (zv.cells[· % zv.cells.size]!)).toList := by
          refine All2.of_get .unk undef (by simp) fun j hj => ?_
          simp at hj
          have h1 : j % szOf P e < szOf P e := Nat.mod_lt _ hp0
          have h2 := (aggPlain_cells hc).get (j % szOf P e) .unk undef (by rw [(aggPlain_cells hc).length]; simp [hzs, h1])
          have e1 : lget ((List.range (len * szOf P e)).map fun j => lget (aggPlain z) (j % szOf P e) .unk) j .unk = lget (aggPlain z) (j % szOf P e) .unk := by
            rw [lget_eq ((List.range (len * szOf P e)).map _)]; simp [List.getD, hj]
          have e3 : lget ((Array.range (len * szOf P e)).map (zv.cells[· % zv.cells.size]!)).toList j undef = lget zv.cells.toList (j % szOf P e) undef := by
            rw [lget_eq, lget_eq, hzs]
            simp [List.getD, hj, getElem!_def]
            rw [Array.getElem?_eq_getElem (by rw [hzs]; exact h1)]
            simp
          rw [e1, e3]
          exact h2
        obtain ⟨us, h1, h2⟩ := fillA_ok _ hp hbase hf
        rw [Array.toArray_toList] at h1
        have hlcs : us.length = len * szOf P e := by
          have : ∀ (place : Nat → Option (Nat × Nat)) (ps : List (Nat × AV)) (cells cs : List AV), fillA place cells ps = some cs → cs.length = cells.length := by
            intro place ps
            induction ps with
            | nil => intro cells cs h; simp only [fillA] at h; cases h; rfl
            | cons p ps ih =>
              intro cells cs h
              obtain ⟨j, x⟩ := p
              simp only [fillA] at h
              cases hpl : place j with
              | none => simp [hpl] at h
              | some os =>
                simp only [hpl] at h
                cases hcd : (Nat.beq x.cells.length os.2 && Nat.ble (os.1 + x.cells.length) cells.length && boxables x.cells)
                · simp [hcd] at h
                · simp only [hcd, cond_true] at h
                  rw [ih _ _ h, lput_length]
          have := this _ _ _ _ hf
          rw [← h2.length, this]; simp
        have hrun : (execOp a.eval o).run P w = .ok (.value (.slice (some ⟨w.heap.size, 0, none⟩) len len)) (w.alloc (.cells us.toArray e)) := by
          have := run_buildSlice0 w t e len (parts.map fun (i, x) => (i, a.eval x)) us.toArray i zv ht hi hzv (by rw [← hsz]; omega) (by rw [← hsz]; simpa using h1)
          simp [execOp, ho, this]
        rw [forceR_eq]
        refine RdOK.ret fun rds tks => ?_
        have hfr : E.own (.res n) = none := hw.freshR n hn
        have hle : len ≤ maxLen := by
          have := Nat.le_mul_of_pos_right len hp0
          exact Nat.le_trans (Nat.le_trans this e2) (by decide)
        obtain ⟨hL, hW⟩ := WR.newRow (U' := fun j => U j ∨ j = n) hw (k := .res n) (e := e) (m := len) (cap := len) (blk := us.toArray) (w' := w.alloc (.cells us.toArray e)) (cur' := cur)
          rfl rfl rfl rfl (.inl hfr) (fun j h => .inl h) (fun j h => by cases h; exact .inr rfl) (fun j q off h => by cases h) (fun e0 u0 h => by rw [hfr] at h; cases h) (fun _ _ => rfl) (Nat.le_refl _) hle (by simpa using hlcs)
        have hrows : RowsR P E.H e (chunks (szOf P e) len cs) (fun k => lget us k undef) := by
          refine ⟨c1, e4, hp0, fun j q hj hq => ?_⟩
          rw [chunks_length] at hj
          have hok := okRow_cell c1 (i := j) (j := q) (by rw [chunks_length]; exact hj) (by rw [e4]; exact hq)
          rw [chunks_get _ _ _ _ hj, lget_drop_take _ _ _ _ _ hq] at hok ⊢
          refine cr_of_cell_ok hok (h2.get _ .unk undef ?_)
          rw [h2.length, hlcs]
          have : j * szOf P e + szOf P e ≤ len * szOf P e := by rw [← Nat.succ_mul]; exact Nat.mul_le_mul_right _ hj
          omega
        refine does_val hrun ⟨_, hL, hW, ?_, ?_⟩
        · have := (hrows.mono (H' := _) hL.H).lst (b := w.heap.size) (off := 0) (cap := len) (by rw [chunks_length]; exact Nat.le_refl _) (fun k hk => ?_)
          · rw [chunks_length] at this
            exact this
          · rw [chunks_length] at hk
            simp only [Nat.zero_add, if_pos, hk]
            rw [lget_eq, List.getElem?_toArray, List.getElem?_eq_getElem (by omega), List.getD, List.getElem?_eq_getElem (by omega)]
            rfl
        · exact ⟨_, if_pos rfl, Nat.zero_le _, fun _ => ⟨rfl, if_pos rfl⟩⟩
end
end Go.AI

/-
  CALLS (1): what a callee is handed, and what comes back. Nothing here is about one program.
-/
set_option linter.unusedVariables false
set_option linter.unusedSimpArgs false
namespace Go.AI

/-! ### boxes are renamed -/
section
variable {P : Program} {E E' : Env} {cur cur' : Cur} {r : Nat → Option Nat}

structure Renames (r : Nat → Option Nat) (E E' : Env) : Prop where
  β : ∀ id j, r id = some j → ∀ b, E.β id = some b → E'.β j = some b
  H : ∀ b o v, E.H b o = some v → E'.H b o = some v
  own : E'.own = E.own
  rt : E'.rt = E.rt

theorem ren1_simp (h : Renames r E E') {v v' : AV} {u : Value} (hr : ren1 r v = some v') (hv : SimpR P E v u) : SimpR P E' v' u := by
  have hc : ∀ {x : AV}, CR P E.H x u → CR P E'.H x u := fun hx => hx.mono h.H
  cases v <;> simp only [ren1, Option.map_eq_some_iff, Option.some.injEq] at hr <;> first
    | (obtain ⟨j, hj, rfl⟩ := hr; obtain ⟨b, hb, rfl⟩ := hv; exact ⟨b, h.β _ _ hj b hb, rfl⟩)
    | (subst hr; exact hv)
    | (subst hr; exact hc hv)
    | (cases hr; done)
    | skip
  rename_i f a c
  cases a <;> cases c <;> simp [ren1] at hr
  subst hr
  exact hc hv
theorem ren1_cell (h : Renames r E E') {v v' : AV} {u : Value} (hr : ren1 r v = some v') (hv : CellR P E cur v u) : CellR P E' cur v' u := by
  cases v <;> first
    | (simp only [ren1, Option.some.injEq] at hr; subst hr; exact hv)
    | (simp only [ren1, Option.map_eq_some_iff] at hr; obtain ⟨j, hj, rfl⟩ := hr; obtain ⟨b, hb, rfl⟩ := hv; exact ⟨b, h.β _ _ hj b hb, rfl⟩)
    | (simp only [ren1, Option.some.injEq] at hr; subst hr; exact CR.mono h.H hv)
    | (simp only [ren1] at hr; cases hr; done)
    | skip
  · simp only [ren1, Option.some.injEq] at hr
    subst hr
    refine ⟨hv.1.mono h.H, ?_⟩
    have := hv.2
    unfold MarkR at this ⊢
    rw [h.own, h.rt]
    exact this
  · rename_i f a c
    cases a <;> cases c <;> simp [ren1] at hr
    subst hr
    obtain ⟨a', c', rfl, h1, h2⟩ := hv
    rw [h1.nil_left, h2.nil_left]
    exact ⟨[], [], rfl, trivial, trivial⟩
theorem renL_all2 {R R' : AV → Value → Prop} (hR : ∀ c c' u, ren1 r c = some c' → R c u → R' c' u) : ∀ {l l' : List AV} {us : List Value}, renL r l = some l' → All2 R l us → All2 R' l' us
  | [], l', us, h, ha => by simp only [renL, Option.some.injEq] at h; subst h; rw [ha.nil_left]; trivial
  | v :: l, l', us, h, ha => by
    obtain ⟨u, us', rfl, h1, h2⟩ := ha.cons_left
    simp only [renL, Option.bind_eq_some_iff, Option.map_eq_some_iff] at h
    obtain ⟨x, hx, l2, hl2, rfl⟩ := h
    exact ⟨hR _ _ _ hx h1, renL_all2 hR hl2 h2⟩
theorem ren_eq {v : AV} (h : ∀ cs, v ≠ .agg cs) (h2 : ∀ f a c, v ≠ .fn f a c) : ren r v = ren1 r v := by
  cases v <;> first | rfl | exact absurd rfl (h _) | exact absurd rfl (h2 _ _ _)
theorem renRes_eq {v : AV} (h : ∀ cs, v ≠ .tup cs) : renRes r v = ren r v := by
  cases v <;> first | rfl | exact absurd rfl (h _)
theorem ren_cell (h : Renames r E E') {v v' : AV} {u : Value} (hr : ren r v = some v') (hv : CellR P E cur v u) : CellR P E' cur v' u := by
  cases v
  case agg => exact hv.elim
  case fn f a c =>
    simp only [ren, Option.bind_eq_some_iff, Option.map_eq_some_iff] at hr
    obtain ⟨a2, ha2, c2, hc2, rfl⟩ := hr
    obtain ⟨a', c', rfl, h1, h2⟩ := hv
    exact ⟨a', c', rfl, renL_all2 (R := SimpR P E) (R' := SimpR P E') (fun _ _ _ => ren1_simp h) ha2 h1, renL_all2 (R := SimpR P E) (R' := SimpR P E') (fun _ _ _ => ren1_simp h) hc2 h2⟩
  all_goals (rw [ren_eq (by simp) (by simp)] at hr; exact ren1_cell h hr hv)
theorem ren_val (h : Renames r E E') {v v' : AV} {u : Value} (hr : ren r v = some v') (hv : ValR P E cur v u) : ValR P E' cur v' u := by
  cases v <;> first
    | (refine valR_of_cell (ren_cell h hr ?_); exact hv)
    | skip
  simp only [ren, Option.map_eq_some_iff] at hr
  obtain ⟨cs', hcs, rfl⟩ := hr
  obtain ⟨vs, rfl, hall⟩ := hv
  exact ⟨vs, rfl, renL_all2 (R := CellR P E cur) (R' := CellR P E' cur) (fun _ _ _ => ren1_cell h) hcs hall⟩
theorem renAll_all2 {R R' : AV → Value → Prop} (hR : ∀ c c' u, ren r c = some c' → R c u → R' c' u) : ∀ {l l' : List AV} {us : List Value}, renAll r l = some l' → All2 R l us → All2 R' l' us
  | [], l', us, h, ha => by simp only [renAll, Option.some.injEq] at h; subst h; rw [ha.nil_left]; trivial
  | v :: l, l', us, h, ha => by
    obtain ⟨u, us', rfl, h1, h2⟩ := ha.cons_left
    simp only [renAll, Option.bind_eq_some_iff, Option.map_eq_some_iff] at h
    obtain ⟨x, hx, l2, hl2, rfl⟩ := h
    exact ⟨hR _ _ _ hx h1, renAll_all2 hR hl2 h2⟩
theorem renRes_tup (h : Renames r E E') {v v' : AV} {u : Value} (hr : renRes r v = some v') (hv : TupR P E cur v u) : TupR P E' cur v' u := by
  cases v <;> first
    | (rw [renRes_eq (by simp)] at hr; refine tupR_of_val (ren_val h hr ?_); exact hv)
    | skip
  simp only [renRes, Option.map_eq_some_iff] at hr
  obtain ⟨cs', hcs, rfl⟩ := hr
  obtain ⟨vs, rfl, hall⟩ := hv
  exact ⟨vs, rfl, renAll_all2 (R := ValR P E cur) (R' := ValR P E' cur) (fun _ _ _ => ren_val h) hcs hall⟩

/-- what renaming keeps of a cell -/
theorem ren1_keeps {v v' : AV} (hr : ren1 r v = some v') : boxable v' = boxable v ∧ (∀ e l m, v' = .lst e l m ↔ v = .lst e l m) := by
  cases v <;> simp only [ren1, Option.map_eq_some_iff, Option.some.injEq] at hr <;> first
    | (obtain ⟨j, hj, rfl⟩ := hr; exact ⟨rfl, fun e l m => by simp⟩)
    | (subst hr; exact ⟨rfl, fun e l m => by simp⟩)
    | (cases hr; done)
    | skip
  rename_i f a c
  cases a <;> cases c <;> simp [ren1] at hr
  subst hr
  exact ⟨rfl, fun e l m => by simp⟩
theorem ren_keeps {v v' : AV} (hb : boxable v = true) (hr : ren r v = some v') : boxable v' = boxable v ∧ (∀ e l m, v' = .lst e l m ↔ v = .lst e l m) := by
  cases v
  case agg => simp [boxable] at hb
  case fn f a c =>
    simp only [ren, Option.bind_eq_some_iff, Option.map_eq_some_iff] at hr
    obtain ⟨a2, ha2, c2, hc2, rfl⟩ := hr
    exact ⟨rfl, fun e l m => by simp⟩
  all_goals (rw [ren_eq (by simp) (by simp)] at hr; exact ren1_keeps hr)
theorem renAll_length : ∀ {l l' : List AV}, renAll r l = some l' → l'.length = l.length
  | [], l', h => by simp only [renAll, Option.some.injEq] at h; subst h; rfl
  | v :: l, l', h => by
    simp only [renAll, Option.bind_eq_some_iff, Option.map_eq_some_iff] at h
    obtain ⟨x, hx, l2, hl2, rfl⟩ := h
    simp [renAll_length hl2]
theorem renAll_get : ∀ {l l' : List AV}, renAll r l = some l' → ∀ i, i < l.length → ren r (lget l i .unk) = some (lget l' i .unk)
  | [], l', h, i, hi => by simp at hi
  | v :: l, l', h, i, hi => by
    simp only [renAll, Option.bind_eq_some_iff, Option.map_eq_some_iff] at h
    obtain ⟨x, hx, l2, hl2, rfl⟩ := h
    cases i with
    | zero => exact hx
    | succ i => exact renAll_get hl2 i (by simpa using hi)
theorem renObjs_length : ∀ {l l' : List AObj}, renObjs r l = some l' → l'.length = l.length
  | [], l', h => by simp only [renObjs, Option.some.injEq] at h; subst h; rfl
  | v :: l, l', h => by
    simp only [renObjs, Option.bind_eq_some_iff, Option.map_eq_some_iff] at h
    obtain ⟨x, hx, l2, hl2, rfl⟩ := h
    simp [renObjs_length hl2]
theorem renObjs_get : ∀ {l l' : List AObj}, renObjs r l = some l' → ∀ j o', lnth l' j = some o' → ∃ o, lnth l j = some o ∧ renObj r o = some o'
  | [], l', h, j, o', hj => by simp only [renObjs, Option.some.injEq] at h; subst h; cases j <;> simp [lnth] at hj
  | v :: l, l', h, j, o', hj => by
    simp only [renObjs, Option.bind_eq_some_iff, Option.map_eq_some_iff] at h
    obtain ⟨x, hx, l2, hl2, rfl⟩ := h
    cases j with
    | zero => simp only [lnth, Option.some.injEq] at hj ⊢; subst hj; exact ⟨v, rfl, hx⟩
    | succ j => exact renObjs_get hl2 j o' hj
end

/-! ### rights go along -/
/-- a cell on its way to a callee -/
def passC (cur : Cur) (j off : Nat) : AV → AV
  | .lst e r (.tk k ver) => cond (Nat.beq (cur k) ver) (.lst e r (.tk (.ce j off) 0)) (.lst e r .view)
  | c => plain c
def killC (cur : Cur) : AV → List (Tok × Nat)
  | .lst _ _ (.tk k ver) => cond (Nat.beq (cur k) ver) [(k, cur k + 1)] []
  | _ => []
def passF (cur : Cur) (j : Nat) : Nat → List AV → List AV
  | _, [] => []
  | off, c :: cs => passC cur j off c :: passF cur j (off + 1) cs
def killF (cur : Cur) : List AV → List (Tok × Nat)
  | [] => []
  | c :: cs => killC cur c ++ killF cur cs
def passOF (cur : Cur) (j : Nat) : AObj → AObj
  | .box cs => .box (passF cur j 0 cs)
  | o => o
def killOF (cur : Cur) : AObj → List (Tok × Nat)
  | .box cs => killF cur cs
  | _ => []
def passOsF (cur : Cur) : Nat → List AObj → List AObj
  | _, [] => []
  | j, o :: os => passOF cur j o :: passOsF cur (j + 1) os
def killOsF (cur : Cur) : List AObj → List (Tok × Nat)
  | [] => []
  | o :: os => killOF cur o ++ killOsF cur os

theorem passF_length (cur : Cur) (j : Nat) : ∀ (cs : List AV) (off : Nat), (passF cur j off cs).length = cs.length
  | [], _ => rfl
  | c :: cs, off => by simp [passF, passF_length cur j cs]
theorem passF_get (cur : Cur) (j : Nat) : ∀ (cs : List AV) (off i : Nat), i < cs.length → lget (passF cur j off cs) i .unk = passC cur j (off + i) (lget cs i .unk)
  | c :: cs, off, 0, _ => rfl
  | c :: cs, off, i + 1, h => by
    simp only [passF, lget]
    rw [passF_get cur j cs (off + 1) i (by simpa using h), show off + 1 + i = off + (i + 1) from by omega]
theorem passOsF_get (cur : Cur) : ∀ (os : List AObj) (j i : Nat), lnth (passOsF cur j os) i = (lnth os i).map (passOF cur (j + i))
  | [], j, i => by cases i <;> rfl
  | o :: os, j, 0 => rfl
  | o :: os, j, i + 1 => by
    simp only [passOsF, lnth]
    rw [passOsF_get cur os (j + 1) i, show j + 1 + i = j + (i + 1) from by omega]
theorem killF_mem (cur : Cur) : ∀ (cs : List AV) (p : Tok × Nat), p ∈ killF cur cs ↔ ∃ i e r, i < cs.length ∧ lget cs i .unk = .lst e r (.tk p.1 (cur p.1)) ∧ p.2 = cur p.1 + 1
  | [], p => by simp [killF]
  | c :: cs, p => by
    simp only [killF, List.mem_append, killF_mem cur cs p]
    constructor
    · rintro (h | ⟨i, e, r, hi, h1, h2⟩)
      · unfold killC at h
        split at h
        · rename_i e r k ver
          cases hb : Nat.beq (cur k) ver
          · simp [hb] at h
          · simp only [hb, cond_true, List.mem_singleton] at h
            have := Nat.eq_of_beq_eq_true hb
            subst h; subst this
            exact ⟨0, e, r, by simp, rfl, rfl⟩
        · cases h
      · exact ⟨i + 1, e, r, by simpa using hi, h1, h2⟩
    · rintro ⟨i, e, r, hi, h1, h2⟩
      cases i with
      | zero =>
        left
        simp only [lget] at h1
        subst h1
        simp only [killC, Nat.beq_refl, cond_true, List.mem_singleton]
        cases p; simp_all
      | succ i => exact .inr ⟨i, e, r, by simpa using hi, h1, h2⟩
theorem killOsF_mem (cur : Cur) : ∀ (os : List AObj) (p : Tok × Nat), p ∈ killOsF cur os ↔ ∃ j cs i e r, lnth os j = some (.box cs) ∧ i < cs.length ∧ lget cs i .unk = .lst e r (.tk p.1 (cur p.1)) ∧ p.2 = cur p.1 + 1
  | [], p => by simp [killOsF, lnth]
  | o :: os, p => by
    simp only [killOsF, List.mem_append, killOsF_mem cur os p]
    constructor
    · rintro (h | ⟨j, cs, i, e, r, h1, h2⟩)
      · cases o with
        | box cs =>
          obtain ⟨i, e, r, h⟩ := (killF_mem cur cs p).1 h
          exact ⟨0, cs, i, e, r, rfl, h⟩
        | map _ _ _ => cases h
      · exact ⟨j + 1, cs, i, e, r, h1, h2⟩
    · rintro ⟨j, cs, i, e, r, h1, h2⟩
      cases j with
      | zero =>
        left
        simp only [lnth, Option.some.injEq] at h1
        subst h1
        exact (killF_mem cur cs p).2 ⟨i, e, r, h2⟩
      | succ j => exact .inr ⟨j, cs, i, e, r, h1, h2⟩

section
variable {P : Program} {ρ : FuncId → Fn} {E E' : Env} {S : Start} {M : Mem} {cur cur' : Cur} {U U' : Nat → Prop} {w w' : World} {o : Oper} {a : Act} {n : Nat}

theorem RdOK.passL (j : Nat) : ∀ {cs : List AV} {off : Nat} {K : List AV → List (Tok × Nat) → Rd}, RdOK P ρ E S M cur U w o a n (K (passF cur j off cs) (killF cur cs)) → RdOK P ρ E S M cur U w o a n (AI.passL j off cs K)
  | [], off, K, h => by simpa [AI.passL, passF, killF] using h
  | c :: cs, off, K, h => by
    simp only [passF, killF] at h
    unfold AI.passL
    split
    · rename_i heq; cases heq
    · rename_i heq
      cases heq
      refine RdOK.tok ?_
      rename_i e r k ver
      simp only [passC, killC] at h
      cases hb : Nat.beq (cur k) ver
      · simp only [hb, cond_false, List.nil_append] at h ⊢
        exact RdOK.passL j h
      · simp only [hb, cond_true, List.singleton_append] at h ⊢
        exact RdOK.passL j h
    · rename_i off' c' cs' hne heq
      cases heq
      have h1 : ∀ q, passC cur j q c = plain c := by
        intro q
        unfold passC
        split
        · rename_i e r k ver; exact absurd rfl (hne e r k ver)
        · rfl
      have h2 : killC cur c = [] := by
        unfold killC
        split
        · rename_i e r k ver; exact absurd rfl (hne _ _ k ver)
        · rfl
      rw [h1, h2, List.nil_append] at h
      exact RdOK.passL j h
theorem RdOK.passO (j : Nat) {x : AObj} {K : AObj → List (Tok × Nat) → Rd} (h : RdOK P ρ E S M cur U w o a n (K (passOF cur j x) (killOF cur x))) : RdOK P ρ E S M cur U w o a n (AI.passO j x K) := by
  cases x with
  | box cs => exact RdOK.passL j h
  | map _ _ _ => exact h
theorem RdOK.passOs : ∀ {os : List AObj} {j : Nat} {K : List AObj → List (Tok × Nat) → Rd}, RdOK P ρ E S M cur U w o a n (K (passOsF cur j os) (killOsF cur os)) → RdOK P ρ E S M cur U w o a n (AI.passOs j os K)
  | [], j, K, h => h
  | x :: os, j, K, h => RdOK.passO j (RdOK.passOs h)

theorem RdOK.gather : ∀ {fuel : Nat} {todo ids : List Nat} {os : List AObj} {k : List Nat → List AObj → Rd}, ids.Nodup → All2 (fun id x => M id = some x) ids os →
    (∀ ids' os', ids'.Nodup → All2 (fun id x => M id = some x) ids' os' → RdOK P ρ E S M cur U w o a n (k ids' os')) → RdOK P ρ E S M cur U w o a n (AI.gather fuel todo ids os k)
  | 0, _, _, _, _, _, _, _ => RdOK.fail
  | fuel + 1, [], ids, os, k, h1, h2, h => h ids os h1 h2
  | fuel + 1, id :: todo, ids, os, k, h1, h2, h => by
    unfold AI.gather
    refine RdOK.cond (fun _ => RdOK.gather h1 h2 h) fun hc => RdOK.read fun x hx => RdOK.gather ?_ (h2.append ⟨hx, trivial⟩) h
    have hni : id ∉ ids := fun hm => by rw [(lmem_iff id ids).2 hm] at hc; cases hc
    rw [List.nodup_append]
    exact ⟨h1, by simp, fun x hx' y hy e => hni (by simp at hy; subst hy; subst e; exact hx')⟩
end
end Go.AI

/-
  CALLS (2): the callee's start. Nothing here is about one program.
-/
set_option linter.unusedVariables false
set_option linter.unusedSimpArgs false
namespace Go.AI

/-! ### what a function is worth -/
/-- a call, carried out -/
def Callee (P : Program) (f : FuncId) (args : Array Value) (w : World) (R : Ending → World → Prop) : Prop :=
  match (callFunc f args).run P w with
  | .ok (.value v) w' => R (.returned v) w'
  | .ok (.enter g xs) w' => Calls P g xs w' R
  | _ => False

/-- rights in boxes are named by their places -/
def Named (os : List AObj) : Prop := ∀ j cs off e r k ver, lnth os j = some (.box cs) → lget cs off .unk = .lst e r (.tk k ver) → k = .ce j off

/-- without marks it does not matter whose rights they are -/
def unmarked : AV → Bool
  | .lst _ _ .view => true
  | .lst _ _ _ => false
  | _ => true
def unmarkedV : AV → Bool
  | .agg cs => cs.all unmarked
  | v => unmarked v
def unmarkedR : AV → Bool
  | .tup cs => cs.all unmarkedV
  | v => unmarkedV v

/-- behind a function: what it began with, what it hands back -/
def Post (P : Program) (E : Env) (S : Start) (n : Nat) : Res → Ending → World → Prop
  | .ok v os, .returned v', w' => os.length = n ∧ Named os ∧ ∃ E' U', (∀ j, j < n → ∀ b, E.β j = some b → E'.β j = some b) ∧ WR P E' S (fun id => lnth os id) cur0 U' w' ∧ TupR P E' cur0 v v' ∧ unmarkedR v = true
  | .pan v os, .panicked ch, w' => os.length = n ∧ Named os ∧ ∃ E' U', (∀ j, j < n → ∀ b, E.β j = some b → E'.β j = some b) ∧ WR P E' S (fun id => lnth os id) cur0 U' w' ∧ ∃ v', ch = [{ v := v', recovered := false }] ∧ CR P E'.H v v'
  | _, _, _ => False

/-- what 'F' says of function f is so -/
def Sound (P : Program) (glob : Nat → Option AV) (F : Fn) (f : FuncId) : Prop :=
  ∀ args os K R, F args os K = some R → ∃ res, K res = some R ∧ ∀ (E : Env) (S : Start) (w : World) (vs : List Value), S.w = w → S.H = E.H → GlobR P S glob →
    WR P E S (fun id => lnth os id) cur0 (fun k => k < os.length) w → All2 (ValR P E cur0) args vs → Callee P f vs.toArray w (Post P E S os.length res)

section
variable {P : Program} {ρ : FuncId → Fn} {E E' : Env} {S : Start} {M : Mem} {cur cur' : Cur} {U U' : Nat → Prop} {w w' : World} {o : Oper} {a : Act} {n : Nat}

/-- the right that goes with a box's cell -/
def tokAt (cur : Cur) (os : List AObj) (j off : Nat) : Option Tok :=
  match lnth os j with
  | some (.box cs) => match lget cs off .unk with
    | .lst _ _ (.tk k ver) => cond (Nat.beq (cur k) ver) (some k) none
    | _ => none
  | _ => none
theorem tokAt_spec {os : List AObj} {j off : Nat} {k : Tok} (h : tokAt cur os j off = some k) : ∃ cs e r, lnth os j = some (.box cs) ∧ lget cs off .unk = .lst e r (.tk k (cur k)) := by
  unfold tokAt at h
  split at h
  · rename_i cs h1
    split at h
    · rename_i e r k' ver h2
      cases hb : Nat.beq (cur k') ver
      · simp [hb] at h
      · simp only [hb, cond_true, Option.some.injEq] at h
        subst h
        have := Nat.eq_of_beq_eq_true hb
        subst this
        exact ⟨cs, e, r, h1, h2⟩
    · cases h
  · cases h
theorem tokAt_of {os : List AObj} {j off : Nat} {k : Tok} {cs : List AV} {e : TypeId} {r : List (List AV)} (h1 : lnth os j = some (.box cs)) (h2 : lget cs off .unk = .lst e r (.tk k (cur k))) : tokAt cur os j off = some k := by
  unfold tokAt
  simp [h1, h2]

/-- the callee's environment -/
def calleeE (E : Env) (cur : Cur) (ids : List Nat) (os : List AObj) : Env where
  H := E.H
  β j := (lnth ids j).bind E.β
  own
    | .ce j off => (tokAt cur os j off).bind E.own
    | _ => none
  rt
    | .ce j off => match tokAt cur os j off with | some k => E.rt k | none => false
    | _ => false
  loc
    | .ce j off => some (j, off)
    | _ => none
def calleeS (E : Env) (cur : Cur) (ids : List Nat) (os : List AObj) (w : World) : Start where
  H := E.H
  w := w
  acc b := (∃ id, id ∈ ids ∧ E.β id = some b) ∨ ∃ j off k e u, tokAt cur os j off = some k ∧ E.own k = some (e, u) ∧ E.rt k = true ∧ u.ownBlock = some b

theorem all2_lnth {α β : Type} {R : α → β → Prop} : ∀ {l : List α} {m : List β}, All2 R l m → ∀ j y, lnth m j = some y → ∃ x, lnth l j = some x ∧ R x y
  | [], [], _, j, y, h => by cases j <;> simp [lnth] at h
  | x :: l, y' :: m, h, 0, y, hj => by simp only [lnth, Option.some.injEq] at hj; subst hj; exact ⟨x, rfl, h.1⟩
  | x :: l, y' :: m, h, j + 1, y, hj => all2_lnth h.2 j y hj
theorem lnth_lt {α : Type} {l : List α} {j : Nat} {x : α} (h : lnth l j = some x) : j < l.length := by
  rw [lnth_eq] at h; exact (List.getElem?_eq_some_iff.1 h).1
theorem lnth_some {α : Type} {l : List α} {j : Nat} (h : j < l.length) : ∃ x, lnth l j = some x := ⟨l[j], by rw [lnth_eq]; exact List.getElem?_eq_getElem h⟩
theorem lnth_nodup {l : List Nat} (h : l.Nodup) {i j x : Nat} (hi : lnth l i = some x) (hj : lnth l j = some x) : i = j := by
  rw [lnth_eq] at hi hj
  have h1 := (List.getElem?_eq_some_iff.1 hi)
  have h2 := (List.getElem?_eq_some_iff.1 hj)
  obtain ⟨p1, q1⟩ := h1
  obtain ⟨p2, q2⟩ := h2
  rcases Nat.lt_trichotomy i j with c | c | c
  · exact absurd (q1.trans q2.symm) (List.pairwise_iff_getElem.1 h i j p1 p2 c)
  · exact c
  · exact absurd (q2.trans q1.symm) (List.pairwise_iff_getElem.1 h j i p2 p1 c)
theorem lnth_mem {α : Type} {l : List α} {j : Nat} {x : α} (h : lnth l j = some x) : x ∈ l := by
  rw [lnth_eq] at h; exact List.mem_of_getElem? h
theorem mem_lnth {l : List Nat} {x : Nat} (h : x ∈ l) : ∃ j, lnth l j = some x := by
  obtain ⟨j, hj⟩ := List.getElem?_of_mem h
  exact ⟨j, by rw [lnth_eq]; exact hj⟩
theorem ix_lnth : ∀ {l : List Nat} {id j : Nat}, ix l id = some j → lnth l j = some id
  | [], _, _, h => by simp [ix] at h
  | x :: l, id, j, h => by
    simp only [ix] at h
    cases hb : Nat.beq x id
    · simp only [hb, cond_false, Option.map_eq_some_iff] at h
      obtain ⟨j', hj, rfl⟩ := h
      exact ix_lnth (l := l) hj
    · simp only [hb, cond_true, Option.some.injEq] at h
      subst h
      have := Nat.eq_of_beq_eq_true hb
      subst this
      rfl

theorem calleeE_renames (ids : List Nat) (os : List AObj) : Renames (ix ids) E { E with β := (calleeE E cur ids os).β } :=
  ⟨fun id j h b hb => by simp only [calleeE]; rw [ix_lnth h]; exact hb, fun _ _ _ h => h, rfl, rfl⟩

theorem cell_unmarked {E1 E2 : Env} {c1 c2 : Cur} {x : AV} {v : Value} (hu : unmarked x = true) (hH : E2.H = E1.H) (hβ : E2.β = E1.β) (h : CellR P E1 c1 x v) : CellR P E2 c2 x v := by
  have hs : ∀ {y : AV} {u : Value}, SimpR P E1 y u → SimpR P E2 y u := by
    intro y u hy
    cases y <;> simp only [SimpR, hH, hβ] at hy ⊢ <;> exact hy
  cases x
  case lst e r m =>
    cases m <;> simp [unmarked] at hu
    exact ⟨by rw [hH]; exact h.1, trivial⟩
  case fn f p q =>
    obtain ⟨a', c', h1, h2, h3⟩ := h
    exact ⟨a', c', h1, h2.mono fun _ _ => hs, h3.mono fun _ _ => hs⟩
  case unk => trivial
  case undef => exact h
  all_goals (simp only [CellR] at h ⊢; exact hs h)

theorem plain_unmarked (x : AV) : unmarked (plain x) = true := by cases x <;> rfl
theorem aggPlain_unmarked : ∀ (cs : List AV) (i : Nat), unmarked (lget (aggPlain cs) i .unk) = true
  | [], i => by cases i <;> rfl
  | c :: cs, 0 => plain_unmarked c
  | c :: cs, i + 1 => aggPlain_unmarked cs i
theorem val_unmarked {E1 E2 : Env} {c1 c2 : Cur} {x : AV} {v : Value} (hu : unmarkedV x = true) (hH : E2.H = E1.H) (hβ : E2.β = E1.β) (h : ValR P E1 c1 x v) : ValR P E2 c2 x v := by
  cases x
  case agg cs =>
    obtain ⟨vs, h1, h2⟩ := h
    refine ⟨vs, h1, ?_⟩
    refine All2.of_get .unk undef h2.length fun i hi => cell_unmarked ?_ hH hβ (h2.get i .unk undef hi)
    have := List.all_eq_true.1 hu (lget cs i .unk) (by rw [lget_eq, List.getD, List.getElem?_eq_getElem hi]; exact List.getElem_mem hi)
    exact this
  all_goals (refine valR_of_cell (cell_unmarked (E1 := E1) (c1 := c1) ?_ hH hβ ?_); exact hu; exact h)
theorem tup_unmarked {E1 E2 : Env} {c1 c2 : Cur} {x : AV} {v : Value} (hu : unmarkedR x = true) (hH : E2.H = E1.H) (hβ : E2.β = E1.β) (h : TupR P E1 c1 x v) : TupR P E2 c2 x v := by
  cases x
  case tup cs =>
    obtain ⟨vs, h1, h2⟩ := h
    refine ⟨vs, h1, ?_⟩
    refine All2.of_get .unk undef h2.length fun i hi => val_unmarked ?_ hH hβ (h2.get i .unk undef hi)
    have := List.all_eq_true.1 hu (lget cs i .unk) (by rw [lget_eq, List.getD, List.getElem?_eq_getElem hi]; exact List.getElem_mem hi)
    exact this
  all_goals (refine tupR_of_val (val_unmarked (E1 := E1) (c1 := c1) ?_ hH hβ ?_); exact hu; exact h)
theorem argV_unmarked (v : AV) : unmarkedV (argV v) = true := by
  cases v
  case agg cs =>
    simp only [argV, unmarkedV, List.all_eq_true]
    intro x hx
    obtain ⟨i, hi⟩ := List.getElem?_of_mem hx
    have := aggPlain_unmarked cs i
    rw [lget_eq, List.getD, hi] at this
    exact this
  all_goals rfl
theorem ren1_unmarked {r : Nat → Option Nat} {v v' : AV} (hr : ren1 r v = some v') (h : unmarked v = true) : unmarked v' = true := by
  obtain ⟨hb0, hk⟩ := ren1_keeps hr
  cases v'
  case lst e l m =>
    have := (hk e l m).1 rfl
    subst this
    exact h
  all_goals rfl
theorem renL_unmarked {r : Nat → Option Nat} : ∀ {cs cs' : List AV}, renL r cs = some cs' → cs.all unmarked = true → cs'.all unmarked = true
  | [], cs', hcs, h => by simp only [renL, Option.some.injEq] at hcs; subst hcs; rfl
  | c :: cs, cs', hcs, h => by
    simp only [renL, Option.bind_eq_some_iff, Option.map_eq_some_iff] at hcs
    obtain ⟨x, hx, l2, hl2, rfl⟩ := hcs
    simp only [List.all_cons, Bool.and_eq_true] at h ⊢
    exact ⟨ren1_unmarked hx h.1, renL_unmarked hl2 h.2⟩
theorem ren_unmarkedV {r : Nat → Option Nat} {v v' : AV} (hr : ren r v = some v') (h : unmarkedV v = true) : unmarkedV v' = true := by
  cases v
  case agg cs =>
    simp only [ren, Option.map_eq_some_iff] at hr
    obtain ⟨cs', hcs, rfl⟩ := hr
    exact renL_unmarked hcs h
  case fn f x y =>
    simp only [ren, Option.bind_eq_some_iff, Option.map_eq_some_iff] at hr
    obtain ⟨a2, ha2, c2, hc2, rfl⟩ := hr
    rfl
  all_goals
    rw [ren_eq (by simp) (by simp)] at hr
    have h1 := ren1_unmarked hr h
    cases v'
    case agg cs' => simp [ren1] at hr
    all_goals exact h1
theorem renAll_unmarkedV {r : Nat → Option Nat} : ∀ {cs cs' : List AV}, renAll r cs = some cs' → cs.all unmarkedV = true → cs'.all unmarkedV = true
  | [], cs', hcs, h => by simp only [renAll, Option.some.injEq] at hcs; subst hcs; rfl
  | c :: cs, cs', hcs, h => by
    simp only [renAll, Option.bind_eq_some_iff, Option.map_eq_some_iff] at hcs
    obtain ⟨x, hx, l2, hl2, rfl⟩ := hcs
    simp only [List.all_cons, Bool.and_eq_true] at h ⊢
    exact ⟨ren_unmarkedV hx h.1, renAll_unmarkedV hl2 h.2⟩
theorem renRes_unmarked {r : Nat → Option Nat} {v v' : AV} (hr : renRes r v = some v') (h : unmarkedR v = true) : unmarkedR v' = true := by
  by_cases ht : ∃ cs, v = .tup cs
  · obtain ⟨cs, rfl⟩ := ht
    simp only [renRes, Option.map_eq_some_iff] at hr
    obtain ⟨cs', hcs, rfl⟩ := hr
    exact renAll_unmarkedV hcs h
  · rw [renRes_eq fun cs e => ht ⟨cs, e⟩] at hr
    have h1 : unmarkedV v = true := by
      cases v
      case tup cs => exact absurd ⟨cs, rfl⟩ ht
      all_goals exact h
    have h2 := ren_unmarkedV hr h1
    have h3 : ∀ cs, v' ≠ .tup cs := by
      intro cs e
      subst e
      cases v
      case fn f x y =>
        simp only [ren, Option.bind_eq_some_iff, Option.map_eq_some_iff] at hr
        obtain ⟨a2, ha2, c2, hc2, h⟩ := hr
        cases h
      all_goals simp [ren, ren1] at hr
    cases v'
    case tup cs => exact absurd rfl (h3 cs)
    all_goals exact h2
theorem argVs_ok : ∀ {l : List AV} {us : List Value}, All2 (ValR P E cur) l us → All2 (fun x u => ValR P E cur x u ∧ unmarkedV x = true) (argVs l) us
  | [], us, h => by rw [h.nil_left]; trivial
  | v :: l, us, h => by
    obtain ⟨u, us', rfl, h1, h2⟩ := h.cons_left
    exact ⟨⟨plain_tup h1, argV_unmarked v⟩, argVs_ok h2⟩

/-- the arguments, as the callee has them -/
theorem args_callee {ids : List Nat} {os : List AObj} {l l' : List AV} {us : List Value} (h : All2 (ValR P E cur) l us) (hr : renAll (ix ids) (argVs l) = some l') : All2 (ValR P (calleeE E cur ids os) cur0) l' us := by
  refine renAll_all2 (r := ix ids) (R := fun x u => ValR P E cur x u ∧ unmarkedV x = true) (fun c c' u hc hx => ?_) hr (argVs_ok h)
  have h1 := ren_val (calleeE_renames (cur := cur) ids os) hc hx.1
  exact val_unmarked (E1 := { E with β := (calleeE E cur ids os).β }) (E2 := calleeE E cur ids os) (c2 := cur0) (ren_unmarkedV hc hx.2) rfl rfl h1

/-- the boxes, as the callee has them -/
theorem objs_callee (hw : WR P E S M cur U w) {ids : List Nat} {os os1 : List AObj} (hnd : ids.Nodup) (hos : All2 (fun id x => M id = some x) ids os) (hr : renObjs (ix ids) os = some os1) {j : Nat} {o2 : AObj} (hj : lnth (passOsF cur 0 os1) j = some o2) :
    ∃ id b, lnth ids j = some id ∧ E.β id = some b ∧ ObjR P (calleeE E cur ids os) cur0 w j b o2 := by
  rw [passOsF_get, Option.map_eq_some_iff] at hj
  obtain ⟨o1, ho1, rfl⟩ := hj
  obtain ⟨o, ho, hro⟩ := renObjs_get hr j o1 ho1
  obtain ⟨id, hid, hM⟩ := all2_lnth hos j o ho
  obtain ⟨b, hb, hobj⟩ := hw.mem id o hM
  refine ⟨id, b, hid, hb, ?_⟩
  cases o with
  | map kk et es =>
    simp only [renObj, Option.some.injEq] at hro
    subst hro
    exact hobj
  | box cs =>
    simp only [renObj, Option.map_eq_some_iff] at hro
    obtain ⟨cs1, hcs1, rfl⟩ := hro
    obtain ⟨vs, ty, h1, h2, h3, h4⟩ := hobj
    have hl1 := renAll_length hcs1
    have hlv := h2.length
    refine ⟨vs, ty, h1, ?_, ?_, ?_⟩
    · refine All2.of_get .unk undef (by rw [passF_length, hl1]; exact hlv) fun i hi => ?_
      rw [passF_length, hl1] at hi
      rw [passF_get _ _ _ _ _ (by rw [hl1]; exact hi), Nat.zero_add, Nat.zero_add]
      have hg := renAll_get hcs1 i hi
      have hc := h2.get i .unk undef hi
      have hbx := boxables_get h3 i hi
      have hk := ren_keeps hbx hg
      have hcm := ren_cell (calleeE_renames (cur := cur) ids os) hg hc
      unfold passC
      split
      · rename_i e r k ver heq
        have hold := (hk.2 e r (.tk k ver)).1 heq
        rw [heq] at hcm
        cases hbq : Nat.beq (cur k) ver
        · exact ⟨hcm.1, trivial⟩
        · have hver := Nat.eq_of_beq_eq_true hbq
          obtain ⟨u, m1, m2, m3⟩ := hcm.2
          obtain ⟨rfl, m4⟩ := m3 hver
          subst hver
          have htok := tokAt_of ho hold
          refine ⟨hcm.1, lget vs i undef, ?_, Nat.zero_le _, fun _ => ⟨rfl, ?_⟩⟩
          · simp only [calleeE, htok, Option.bind_some]; exact m1
          · simp only [calleeE, htok]; exact m4
      · exact cell_unmarked (E1 := { E with β := (calleeE E cur ids os).β }) (E2 := calleeE E cur ids os) (c2 := cur0) (plain_unmarked _) rfl rfl (plain_cell hcm)
    · refine boxables_of_get fun i hi => ?_
      rw [passF_length, hl1] at hi
      rw [passF_get _ _ _ _ _ (by rw [hl1]; exact hi)]
      have hg := renAll_get hcs1 i hi
      have hbx := boxables_get h3 i hi
      have hk := ren_keeps hbx hg
      rw [hbx] at hk
      unfold passC
      split
      · rename_i e r k ver heq
        cases Nat.beq (cur k) ver <;> rfl
      · exact boxable_plain hk.1
    · intro off e r k ver hoff
      have hlt : off < cs.length := by
        rcases Nat.lt_or_ge off cs.length with h | h
        · exact h
        · rw [lget_eq, List.getD, List.getElem?_eq_none (by rw [passF_length, hl1]; exact h)] at hoff; cases hoff
      rw [passF_get _ _ _ _ _ (by rw [hl1]; exact hlt), Nat.zero_add, Nat.zero_add] at hoff
      unfold passC at hoff
      split at hoff
      · rename_i e' r' k' ver' heq
        cases hbq : Nat.beq (cur k') ver'
        · simp only [hbq, cond_false] at hoff; cases hoff
        · simp only [hbq, cond_true] at hoff; cases hoff; rfl
      · have := plain_unmarked (lget cs1 off .unk)
        rw [hoff] at this; cases this
end
end Go.AI

/-
  CALLS (3): the worlds. Nothing here is about one program.
-/
set_option linter.unusedVariables false
set_option linter.unusedSimpArgs false
namespace Go.AI

section
variable {P : Program} {ρ : FuncId → Fn} {E E' : Env} {S : Start} {M : Mem} {cur cur' : Cur} {U U' : Nat → Prop} {w w' : World} {o : Oper} {a : Act} {n : Nat}

/-- a right that goes along is in its place -/
theorem tokAt_loc (hw : WR P E S M cur U w) {ids : List Nat} {os : List AObj} (hos : All2 (fun id x => M id = some x) ids os) {j off : Nat} {k : Tok} (h : tokAt cur os j off = some k) : ∃ id, lnth ids j = some id ∧ E.loc k = some (id, off) := by
  obtain ⟨cs, e, r, h1, h2⟩ := tokAt_spec h
  obtain ⟨id, hid, hM⟩ := all2_lnth hos j _ h1
  obtain ⟨b, hb, vs, ty, _, _, _, hloc⟩ := hw.mem id _ hM
  exact ⟨id, hid, hloc off e r k _ h2⟩

theorem callee_WR (hw : WR P E S M cur U w) {ids : List Nat} {os os1 : List AObj} (hnd : ids.Nodup) (hos : All2 (fun id x => M id = some x) ids os) (hr : renObjs (ix ids) os = some os1) :
    WR P (calleeE E cur ids os) (calleeS E cur ids os w) (fun j => lnth (passOsF cur 0 os1) j) cur0 (fun k => k < ids.length) w where
  mem j o2 hj := by
    obtain ⟨id, b, hid, hb, hobj⟩ := objs_callee hw hnd hos hr hj
    exact ⟨b, by simp only [calleeE, hid, Option.bind_some]; exact hb, hobj⟩
  inj i j b hi hj := by
    simp only [calleeE, Option.bind_eq_some_iff] at hi hj
    obtain ⟨x, hx, hxb⟩ := hi
    obtain ⟨y, hy, hyb⟩ := hj
    have := hw.inj x y b hxb hyb
    subst this
    exact lnth_nodup hnd hx hy
  bnd j b hj := by
    simp only [calleeE, Option.bind_eq_some_iff] at hj
    obtain ⟨x, hx, hxb⟩ := hj
    exact ⟨(hw.bnd x b hxb).1, (hw.bnd x b hxb).2.1, .inl (.inl ⟨x, lnth_mem hx, hxb⟩)⟩
  freshβ m hm := by
    have : lnth ids m = none := by rw [lnth_eq]; exact List.getElem?_eq_none (Nat.le_of_not_lt hm)
    simp only [calleeE, this, Option.bind_none]
  freshR m hm := rfl
  freshC m j off hm := rfl
  heap := hw.heap
  ext b o v h := h
  acc b o v h := .inl h
  rights k e u h hr' := by
    cases k with
    | ce j off =>
      simp only [calleeE] at h hr'
      cases ht : tokAt cur os j off with
      | none => simp [ht] at h
      | some k =>
        simp only [ht, Option.bind_some] at h hr'
        obtain ⟨q1, q2⟩ := hw.rights k e u h hr'
        refine ⟨?_, fun g hg => .inl (.inr ⟨j, off, k, e, u, ht, h, hr', hg⟩)⟩
        rcases q1 with q1 | ⟨g, m, cap, blk, p0, p1, p2, p3, p4, p5, p6⟩
        · exact .inl q1
        · refine .inr ⟨g, m, cap, blk, p0, p1, p2, p3, p4, p5, fun id hb => ?_⟩
          simp only [calleeE, Option.bind_eq_some_iff] at hb
          obtain ⟨x, hx, hxb⟩ := hb
          exact p6 x hxb
    | _ => cases h
  dist k k' e e' u u' g h1 r1 h2 r2 g1 g2 := by
    cases k with
    | ce j off =>
      cases k' with
      | ce j' off' =>
        simp only [calleeE] at h1 r1 h2 r2
        cases ht : tokAt cur os j off with
        | none => simp [ht] at h1
        | some k =>
          cases ht' : tokAt cur os j' off' with
          | none => simp [ht'] at h2
          | some k' =>
            simp only [ht, ht', Option.bind_some] at h1 r1 h2 r2
            have := hw.dist k k' e e' u u' g h1 r1 h2 r2 g1 g2
            subst this
            obtain ⟨id, hid, hl⟩ := tokAt_loc hw hos ht
            obtain ⟨id', hid', hl'⟩ := tokAt_loc hw hos ht'
            rw [hl] at hl'
            cases hl'
            rw [lnth_nodup hnd hid hid']
      | _ => cases h2
    | _ => cases h1
  os := rfl
  tape := rfl
  output := rfl
  size := Nat.le_refl _
  frame b _ _ := rfl

theorem raise_mem : ∀ (l : List (Tok × Nat)) (c : Cur) (k : Tok), ((∀ p ∈ l, p.1 ≠ k) → raise c l k = c k) ∧ ((∃ p ∈ l, p.1 = k) → ∃ p ∈ l, p.1 = k ∧ raise c l k = p.2)
  | [], c, k => ⟨fun _ => rfl, fun ⟨p, hp, _⟩ => by cases hp⟩
  | (k0, m) :: l, c, k => by
    have ih := raise_mem l (fun k' => cond (decide (k' = k0)) m (c k')) k
    refine ⟨fun h => ?_, fun h => ?_⟩
    · simp only [raise]
      rw [ih.1 fun p hp => h p (List.mem_cons_of_mem _ hp)]
      have : ¬ k = k0 := fun e => h (k0, m) (by simp) e.symm
      simp [this]
    · simp only [raise]
      by_cases hl : ∃ p ∈ l, p.1 = k
      · obtain ⟨p, hp, h1, h2⟩ := ih.2 hl
        exact ⟨p, List.mem_cons_of_mem _ hp, h1, h2⟩
      · rw [ih.1 fun p hp e => hl ⟨p, hp, e⟩]
        obtain ⟨p, hp, e⟩ := h
        rcases List.mem_cons.1 hp with rfl | hp
        · simp only at e; subst e
          exact ⟨(k0, m), by simp, rfl, by simp⟩
        · exact absurd ⟨p, hp, e⟩ hl

theorem upd_zip : ∀ {ids : List Nat} {os : List AObj} (M : Mem) (id : Nat), ids.Nodup → ids.length = os.length → (id ∉ ids → upd M (zipUp ids os) id = M id) ∧ (∀ j, lnth ids j = some id → upd M (zipUp ids os) id = lnth os j)
  | [], os, M, id, _, _ => by
    refine ⟨fun _ => by simp [zipUp, upd], fun j h => by cases j <;> simp [lnth] at h⟩
  | x :: ids, [], M, id, _, h => by simp at h
  | x :: ids, o :: os, M, id, hnd, hl => by
    have hn := List.nodup_cons.1 hnd
    have ih := upd_zip (os := os) (fun k => cond (Nat.beq k x) (some o) (M k)) id hn.2 (by simpa using hl)
    simp only [zipUp, upd]
    refine ⟨fun h => ?_, fun j hj => ?_⟩
    · rw [ih.1 fun hm => h (List.mem_cons_of_mem _ hm)]
      have : Nat.beq id x = false := by
        cases hb : Nat.beq id x
        · rfl
        · exact absurd (by rw [Nat.eq_of_beq_eq_true hb]; exact List.mem_cons_self) h
      simp [this]
    · cases j with
      | zero =>
        simp only [lnth, Option.some.injEq] at hj ⊢
        subst hj
        rw [ih.1 hn.1]; simp
      | succ j => exact ih.2 j hj

/-- behind the call: the callee's rights under new names -/
def backE (E E1 : Env) (ids : List Nat) (n : Nat) (kl : List (Tok × Nat)) : Env where
  H := E1.H
  β := E.β
  own
    | .cb m j off => if m = n then E1.own (.ce j off) else E.own (.cb m j off)
    | k => E.own k
  rt
    | .cb m j off => if m = n then E1.rt (.ce j off) else (E.rt (.cb m j off) && !(kl.any fun p => decide (p.1 = .cb m j off)))
    | k => E.rt k && !(kl.any fun p => decide (p.1 = k))
  loc
    | .cb m j off => if m = n then (lnth ids j).map fun id => (id, off) else E.loc (.cb m j off)
    | k => E.loc k

/-- backE at a right that is not the call's -/
theorem backE_old {E1 : Env} {ids : List Nat} {kl : List (Tok × Nat)} {k : Tok} (h : ∀ j off, k ≠ .cb n j off) :
    (backE E E1 ids n kl).own k = E.own k ∧ (backE E E1 ids n kl).rt k = (E.rt k && !(kl.any fun p => decide (p.1 = k))) ∧ (backE E E1 ids n kl).loc k = E.loc k := by
  cases k with
  | cb m j off =>
    have : m ≠ n := fun e => h j off (by rw [e])
    simp [backE, this]
  | _ => exact ⟨rfl, rfl, rfl⟩
theorem backE_new {E1 : Env} {ids : List Nat} {kl : List (Tok × Nat)} {j off : Nat} :
    (backE E E1 ids n kl).own (.cb n j off) = E1.own (.ce j off) ∧ (backE E E1 ids n kl).rt (.cb n j off) = E1.rt (.ce j off) ∧ (backE E E1 ids n kl).loc (.cb n j off) = (lnth ids j).map fun id => (id, off) := by
  simp [backE]

theorem back_later (hw : WR P E S M cur U w) (hn : ¬ U n) {ids : List Nat} {os : List AObj} {E1 : Env} (hH : ∀ b o v, E.H b o = some v → E1.H b o = some v) :
    Later E cur (backE E E1 ids n (killOsF cur os)) (raise cur (killOsF cur os)) := by
  refine ⟨hH, fun _ _ h => h, fun k e u h => ?_, fun k p hk h => ?_⟩
  · have hne : ∀ j off, k ≠ .cb n j off := fun j off e' => by subst e'; rw [hw.freshC n j off hn] at h; cases h
    obtain ⟨b1, b2, b3⟩ := backE_old (E := E) (E1 := E1) (ids := ids) (kl := killOsF cur os) hne
    have hr := raise_mem (killOsF cur os) cur k
    by_cases hk : ∃ p ∈ killOsF cur os, p.1 = k
    · obtain ⟨p, hp, h1, h2⟩ := hr.2 hk
      obtain ⟨_, _, _, _, _, _, _, _, h3⟩ := (killOsF_mem cur os p).1 hp
      subst h1
      exact ⟨u, by rw [b1]; exact h, by rw [h2, h3]; exact Nat.le_succ _, fun hc => by rw [h2, h3] at hc; omega⟩
    · have h1 := hr.1 fun p hp e => hk ⟨p, hp, e⟩
      refine ⟨u, by rw [b1]; exact h, by rw [h1]; exact Nat.le_refl _, fun _ => ⟨rfl, fun hrt => ?_⟩⟩
      rw [b2, hrt]
      simp only [Bool.true_and, Bool.not_eq_true', List.any_eq_false, decide_eq_true_eq]
      exact fun p hp e => hk ⟨p, hp, e⟩
  · have hne : ∀ j off, k ≠ .cb n j off := fun j off e' => by subst e'; exact hk (hw.freshC n j off hn)
    rw [(backE_old hne).2.2]; exact h

theorem backL_length (n j : Nat) : ∀ (cs : List AV) (off : Nat), (backL n j off cs).length = cs.length
  | [], _ => rfl
  | c :: cs, off => by
    unfold backL
    split <;> rename_i heq
    · cases heq
    · cases heq; simp [backL_length n j cs]
    · cases heq; simp [backL_length n j cs]
def backC (n j off : Nat) : AV → AV
  | .lst e r (.tk _ _) => .lst e r (.tk (.cb n j off) 0)
  | c => plain c
theorem backL_cons (n j off : Nat) (c : AV) (cs : List AV) : backL n j off (c :: cs) = backC n j off c :: backL n j (off + 1) cs := by
  cases c <;> try rfl
  rename_i e r m
  cases m <;> rfl
theorem backL_get (n j : Nat) : ∀ (cs : List AV) (off i : Nat), i < cs.length → lget (backL n j off cs) i .unk = backC n j (off + i) (lget cs i .unk)
  | c :: cs, off, 0, _ => by rw [backL_cons]; rfl
  | c :: cs, off, i + 1, h => by
    rw [backL_cons]; simp only [lget]
    rw [backL_get n j cs (off + 1) i (by simpa using h), show off + 1 + i = off + (i + 1) from by omega]
def backO (n j : Nat) : AObj → AObj
  | .box cs => .box (backL n j 0 cs)
  | o => o
theorem backOs_get (n : Nat) : ∀ (os : List AObj) (j i : Nat), lnth (backOs n j os) i = (lnth os i).map (backO n (j + i))
  | [], j, i => by cases i <;> rfl
  | o :: os, j, 0 => by cases o <;> rfl
  | o :: os, j, i + 1 => by
    cases o <;>
    · simp only [backOs, lnth]
      rw [backOs_get n os (j + 1) i, show j + 1 + i = j + (i + 1) from by omega]
theorem backOs_length (n : Nat) : ∀ (os : List AObj) (j : Nat), (backOs n j os).length = os.length
  | [], _ => rfl
  | o :: os, j => by cases o <;> simp [backOs, backOs_length n os]
end
end Go.AI

/-
  CALLS (4): behind the call. Nothing here is about one program.
-/
set_option linter.unusedVariables false
set_option linter.unusedSimpArgs false
namespace Go.AI

section
variable {P : Program} {ρ : FuncId → Fn} {E E' : Env} {S : Start} {M : Mem} {cur cur' : Cur} {U U' : Nat → Prop} {w w' : World} {o : Oper} {a : Act} {n : Nat}

theorem killC_ren {r : Nat → Option Nat} {c c' : AV} (hb : boxable c = true) (h : ren r c = some c') : killC cur c' = killC cur c := by
  obtain ⟨_, hk⟩ := ren_keeps hb h
  have h1 : ∀ e l m, c' = .lst e l m ↔ c = .lst e l m := hk
  by_cases hl : ∃ e l m, c = .lst e l m
  · obtain ⟨e, l, m, rfl⟩ := hl
    rw [(h1 e l m).2 rfl]
  · have hl' : ¬ ∃ e l m, c' = .lst e l m := fun ⟨e, l, m, h⟩ => hl ⟨e, l, m, (h1 e l m).1 h⟩
    have q : ∀ x : AV, (¬ ∃ e l m, x = .lst e l m) → killC cur x = [] := by
      intro x hx
      cases x
      case lst e l m => exact absurd ⟨e, l, m, rfl⟩ hx
      all_goals rfl
    rw [q c hl, q c' hl']
theorem killF_ren {r : Nat → Option Nat} : ∀ {cs cs' : List AV}, boxables cs = true → renAll r cs = some cs' → killF cur cs' = killF cur cs
  | [], cs', _, h => by simp only [renAll, Option.some.injEq] at h; subst h; rfl
  | c :: cs, cs', hb, h => by
    simp only [renAll, Option.bind_eq_some_iff, Option.map_eq_some_iff] at h
    obtain ⟨x, hx, l2, hl2, rfl⟩ := h
    simp only [boxables] at hb
    cases hc : boxable c
    · simp [hc] at hb
    · simp only [hc, cond_true] at hb
      simp only [killF]
      rw [killC_ren hc hx, killF_ren hb hl2]
theorem killOsF_ren {r : Nat → Option Nat} : ∀ {os os' : List AObj}, (∀ j cs, lnth os j = some (.box cs) → boxables cs = true) → renObjs r os = some os' → killOsF cur os' = killOsF cur os
  | [], os', _, h => by simp only [renObjs, Option.some.injEq] at h; subst h; rfl
  | o :: os, os', hb, h => by
    simp only [renObjs, Option.bind_eq_some_iff, Option.map_eq_some_iff] at h
    obtain ⟨x, hx, l2, hl2, rfl⟩ := h
    simp only [killOsF]
    rw [killOsF_ren (fun j cs hj => hb (j + 1) cs hj) hl2]
    congr 1
    cases o with
    | box cs =>
      simp only [renObj, Option.map_eq_some_iff] at hx
      obtain ⟨cs', hcs, rfl⟩ := hx
      exact killF_ren (hb 0 cs rfl) hcs
    | map kk et es =>
      simp only [renObj, Option.some.injEq] at hx
      subst hx; rfl

section
variable {ids : List Nat} {os os1 os2 : List AObj} {E1 : Env} {U1 : Nat → Prop}

theorem acc_old (hw : WR P E S M cur U w) {b : Nat} (h : (calleeS E cur ids os w).acc b) : S.acc b ∨ S.w.heap.size ≤ b := by
  rcases h with ⟨id, _, hb⟩ | ⟨j, off, k, e, u, _, h1, h2, h3⟩
  · exact (hw.bnd id b hb).2.2
  · exact (hw.rights k e u h1 h2).2 b h3
theorem acc_box (hw : WR P E S M cur U w) {id b : Nat} (hb : E.β id = some b) (hid : id ∉ ids) : ¬ (calleeS E cur ids os w).acc b := by
  rintro (⟨id', hm, hb'⟩ | ⟨j, off, k, e, u, _, h1, h2, h3⟩)
  · exact hid (hw.inj id' id b hb' hb ▸ hm)
  · exact ((hw.rights k e u h1 h2).1.lt h3).2 id hb
theorem acc_right (hw : WR P E S M cur U w) {k : Tok} {e : TypeId} {u : Value} {g : Nat} (h1 : E.own k = some (e, u)) (h2 : E.rt k = true) (h3 : u.ownBlock = some g) (hk : ∀ p ∈ killOsF cur os, p.1 ≠ k) : ¬ (calleeS E cur ids os w).acc g := by
  rintro (⟨id', hm, hb'⟩ | ⟨j, off, k', e', u', ht, q1, q2, q3⟩)
  · exact ((hw.rights k e u h1 h2).1.lt h3).2 id' hb'
  · have := hw.dist k k' e e' u u' g h1 h2 q1 q2 h3 q3
    subst this
    obtain ⟨cs, e1, r, s1, s2⟩ := tokAt_spec ht
    have hlt : off < cs.length := by
      rcases Nat.lt_or_ge off cs.length with h | h
      · exact h
      · rw [lget_eq, List.getD, List.getElem?_eq_none h] at s2; cases s2
    exact hk (k, cur k + 1) ((killOsF_mem cur os _).2 ⟨j, cs, off, e1, r, s1, hlt, s2, rfl⟩) rfl
theorem acc_fresh (hw : WR P E S M cur U w) (hβ1 : ∀ j, j < ids.length → ∀ b, (calleeE E cur ids os).β j = some b → E1.β j = some b) {g : Nat} (hg : (calleeS E cur ids os w).acc g ∨ w.heap.size ≤ g) (h : ∀ id, E1.β id ≠ some g) : ∀ id, E.β id ≠ some g := by
  intro id hb
  rcases hg with hg | hg
  · by_cases hid : id ∈ ids
    · obtain ⟨j, hj⟩ := mem_lnth hid
      exact h j (hβ1 j (lnth_lt hj) g (by simp only [calleeE, hj, Option.bind_some]; exact hb))
    · exact acc_box hw hb hid hg
  · have := (hw.bnd id g hb).1; omega

/-- a box that comes back -/
theorem obj_back (hw : WR P E S M cur U w) (hlen : os1.length = ids.length) (hnamed : Named os1) (hβ1 : ∀ j, j < ids.length → ∀ b, (calleeE E cur ids os).β j = some b → E1.β j = some b)
    (hβ0 : ∀ id, id ∈ ids → ∃ b, E.β id = some b)
    (h1 : WR P E1 (calleeS E cur ids os w) (fun j => lnth os1 j) cur0 U1 w') (hr : renObjs (lnth ids) os1 = some os2) (kl : List (Tok × Nat)) (cur' : Cur) {j id : Nat} {x : AObj} (hid : lnth ids j = some id) (hx : lnth (backOs n 0 os2) j = some x) :
    ∃ b, E.β id = some b ∧ ObjR P (backE E E1 ids n kl) cur' w' id b x := by
  obtain ⟨b, hb⟩ := hβ0 id (lnth_mem hid)
  refine ⟨b, hb, ?_⟩
  rw [backOs_get, Option.map_eq_some_iff] at hx
  obtain ⟨x2, hx2, rfl⟩ := hx
  obtain ⟨x1, hx1, hrx⟩ := renObjs_get hr j x2 hx2
  obtain ⟨b1, hb1, hobj⟩ := h1.mem j x1 hx1
  have hbb : b1 = b := by
    have := hβ1 j (lnth_lt hid) b (by simp only [calleeE, hid, Option.bind_some]; exact hb)
    rw [this] at hb1; exact (Option.some.inj hb1).symm
  subst hbb
  have hren : Renames (lnth ids) E1 { E1 with β := E.β } := ⟨fun i k hk b2 hb2 => by
    obtain ⟨b3, hb3⟩ := hβ0 k (lnth_mem hk)
    have := hβ1 i (lnth_lt hk) b3 (by simp only [calleeE, hk, Option.bind_some]; exact hb3)
    rw [this] at hb2
    cases hb2
    exact hb3, fun _ _ _ h => h, rfl, rfl⟩
  cases x1 with
  | map kk et es =>
    simp only [renObj, Option.some.injEq] at hrx
    subst hrx
    exact hobj
  | box cs =>
    simp only [renObj, Option.map_eq_some_iff] at hrx
    obtain ⟨cs2, hcs2, rfl⟩ := hrx
    obtain ⟨vs, ty, q1, q2, q3, q4⟩ := hobj
    have hl2 := renAll_length hcs2
    have hlv := q2.length
    refine ⟨vs, ty, q1, ?_, ?_, ?_⟩
    · refine All2.of_get .unk undef (by rw [backL_length, hl2]; exact hlv) fun i hi => ?_
      rw [backL_length, hl2] at hi
      rw [backL_get _ _ _ _ _ (by rw [hl2]; exact hi), Nat.zero_add, Nat.zero_add]
      have hg := renAll_get hcs2 i hi
      have hc := q2.get i .unk undef hi
      have hbx := boxables_get q3 i hi
      have hk := ren_keeps hbx hg
      have hcm := ren_cell (cur := cur0) hren hg hc
      unfold backC
      split
      · rename_i e r k ver heq
        have hold := (hk.2 e r (.tk k ver)).1 heq
        have hkn := hnamed j cs i e r k ver hx1 hold
        subst hkn
        rw [heq] at hcm
        obtain ⟨u, m1, m2, m3⟩ := hcm.2
        have hv0 : ver = 0 := Nat.le_zero.1 m2
        subst hv0
        obtain ⟨rfl, m4⟩ := m3 rfl
        obtain ⟨n1, n2, n3⟩ := backE_new (E := E) (E1 := E1) (ids := ids) (n := n) (kl := kl) (j := j) (off := i)
        exact ⟨hcm.1, lget vs i undef, by rw [n1]; exact m1, Nat.zero_le _, fun _ => ⟨rfl, by rw [n2]; exact m4⟩⟩
      · exact cell_unmarked (E1 := { E1 with β := E.β }) (E2 := backE E E1 ids n kl) (c2 := cur') (plain_unmarked _) rfl rfl (plain_cell hcm)
    · refine boxables_of_get fun i hi => ?_
      rw [backL_length, hl2] at hi
      rw [backL_get _ _ _ _ _ (by rw [hl2]; exact hi)]
      have hg := renAll_get hcs2 i hi
      have hbx := boxables_get q3 i hi
      have hk := ren_keeps hbx hg
      rw [hbx] at hk
      unfold backC
      split
      · rfl
      · exact boxable_plain hk.1
    · intro off e r k ver hoff
      have hlt : off < cs.length := by
        rcases Nat.lt_or_ge off cs.length with h | h
        · exact h
        · rw [lget_eq, List.getD, List.getElem?_eq_none (by rw [backL_length, hl2]; exact h)] at hoff; cases hoff
      rw [backL_get _ _ _ _ _ (by rw [hl2]; exact hlt), Nat.zero_add, Nat.zero_add] at hoff
      unfold backC at hoff
      split at hoff
      · cases hoff
        rw [(backE_new (E := E) (E1 := E1) (ids := ids) (n := n) (kl := kl) (j := j) (off := off)).2.2, hid]
        rfl
      · have := plain_unmarked (lget cs2 off .unk)
        rw [hoff] at this; cases this

theorem back_WR (hw : WR P E S M cur U w) (hn : ¬ U n) (hnd : ids.Nodup) (hos : All2 (fun id x => M id = some x) ids os) (hlen : os1.length = ids.length) (hnamed : Named os1)
    (hβ1 : ∀ j, j < ids.length → ∀ b, (calleeE E cur ids os).β j = some b → E1.β j = some b) (h1 : WR P E1 (calleeS E cur ids os w) (fun j => lnth os1 j) cur0 U1 w') (hr : renObjs (lnth ids) os1 = some os2) :
    Later E cur (backE E E1 ids n (killOsF cur os)) (raise cur (killOsF cur os)) ∧
    WR P (backE E E1 ids n (killOsF cur os)) S (upd M (zipUp ids (backOs n 0 os2))) (raise cur (killOsF cur os)) (fun k => U k ∨ k = n) w' := by
  have hL := back_later (n := n) hw hn (ids := ids) (os := os) (E1 := E1) (fun b o v h => h1.ext b o v h)
  have hβ0 : ∀ id, id ∈ ids → ∃ b, E.β id = some b := by
    intro id hid
    obtain ⟨j, hj⟩ := mem_lnth hid
    have hlt := lnth_lt hj
    obtain ⟨x, hx⟩ := lnth_some (l := os) (j := j) (by rw [← hos.length]; exact hlt)
    obtain ⟨id', hid', hM⟩ := all2_lnth hos j x hx
    rw [hj] at hid'; cases hid'
    obtain ⟨b, hb, _⟩ := hw.mem id x hM
    exact ⟨b, hb⟩
  have hsz : w.heap.size ≤ w'.heap.size := h1.size
  have hfr : ∀ b, b < w.heap.size → ¬ (calleeS E cur ids os w).acc b → w'.heap[b]? = w.heap[b]? := h1.frame
  have hHold : ∀ b o v, b < w.heap.size → ¬ (calleeS E cur ids os w).acc b → E1.H b o = some v → E.H b o = some v := by
    intro b o v hb ha h
    rcases h1.acc b o v h with h | h | h
    · exact h
    · exact absurd h ha
    · exact absurd h (Nat.not_le_of_lt hb)
  have hlen2 : ids.length = (backOs n 0 os2).length := by rw [backOs_length, renObjs_length hr, hlen]
  have hnkl : ∀ k, (!((killOsF cur os).any fun p => decide (p.1 = k))) = true → ∀ p ∈ killOsF cur os, p.1 ≠ k := by
    intro k h p hp e
    simp only [Bool.not_eq_true', List.any_eq_false, decide_eq_true_eq] at h
    exact h p hp e
  refine ⟨hL, ?_⟩
  refine
    { mem := fun id x h => ?_, inj := hw.inj, bnd := fun i b h => ?_, freshβ := fun m hm => hw.freshβ m fun h => hm (.inl h), freshR := fun m hm => hw.freshR m fun h => hm (.inl h), freshC := fun m j off hm => ?_,
      heap := h1.heap, ext := fun b o v h => h1.ext b o v (hw.ext b o v h), acc := fun b o v h => ?_, rights := fun k e u h hrt => ?_, dist := ?_,
      os := h1.os.trans hw.os, tape := h1.tape.trans hw.tape, output := h1.output.trans hw.output, size := Nat.le_trans hw.size hsz, frame := fun b hb ha => ?_ }
  · have hz := upd_zip (ids := ids) (os := backOs n 0 os2) M id hnd hlen2
    by_cases hid : id ∈ ids
    · obtain ⟨j, hj⟩ := mem_lnth hid
      rw [hz.2 j hj] at h
      exact obj_back hw hlen hnamed hβ1 hβ0 h1 hr _ _ hj h
    · rw [hz.1 hid] at h
      obtain ⟨b, hb, hobj⟩ := hw.mem id x h
      exact ⟨b, hb, (hobj.later hL).world (hfr b (hw.bnd id b hb).1 (acc_box hw hb hid))⟩
  · obtain ⟨q1, q2, q3⟩ := hw.bnd i b h
    refine ⟨Nat.lt_of_lt_of_le q1 hsz, fun o => ?_, q3⟩
    by_cases hid : i ∈ ids
    · obtain ⟨j, hj⟩ := mem_lnth hid
      have := hβ1 j (lnth_lt hj) b (by simp only [calleeE, hj, Option.bind_some]; exact h)
      exact (h1.bnd j b this).2.1 o
    · cases ho : E1.H b o with
      | none => exact ho
      | some v => have := hHold b o v q1 (acc_box hw h hid) ho; rw [q2 o] at this; cases this
  · have hmn : ¬ m = n := fun e => hm (.inr e)
    rw [(backE_old (n := n) (k := .cb m j off) (fun j' off' e => by cases e; exact hmn rfl)).1]
    exact hw.freshC m j off fun h => hm (.inl h)
  · rcases h1.acc b o v h with h | h | h
    · exact hw.acc b o v h
    · exact .inr (acc_old hw h)
    · exact .inr (.inr (Nat.le_trans hw.size h))
  · by_cases hk : ∃ j off, k = .cb n j off
    · obtain ⟨j, off, rfl⟩ := hk
      obtain ⟨n1, n2, n3⟩ := backE_new (E := E) (E1 := E1) (ids := ids) (n := n) (kl := killOsF cur os) (j := j) (off := off)
      rw [n1] at h
      rw [n2] at hrt
      obtain ⟨q1, q2⟩ := h1.rights _ e u h hrt
      refine ⟨?_, fun g hg => ?_⟩
      · rcases q1 with q1 | ⟨g, m, cap, blk, rfl, p1, p2, p3, p4, p5, p6⟩
        · exact .inl q1
        · exact .inr ⟨g, m, cap, blk, rfl, p1, p2, p3, p4, p5, acc_fresh hw hβ1 (q2 g rfl) p6⟩
      · rcases q2 g hg with q | q
        · exact acc_old hw q
        · exact .inr (Nat.le_trans hw.size q)
    · obtain ⟨b1, b2, b3⟩ := backE_old (n := n) (E := E) (E1 := E1) (ids := ids) (kl := killOsF cur os) (k := k) (fun j off e => hk ⟨j, off, e⟩)
      rw [b1] at h
      rw [b2, Bool.and_eq_true] at hrt
      obtain ⟨q1, q2⟩ := hw.rights k e u h hrt.1
      refine ⟨?_, q2⟩
      rcases q1 with q1 | ⟨g, m, cap, blk, rfl, p1, p2, p3, p4, p5, p6⟩
      · exact .inl q1
      · have hlt := ((hw.rights k _ _ h hrt.1).1.lt (g := g) rfl).1
        have hna := acc_right (ids := ids) (w := w) (os := os) hw h hrt.1 (g := g) rfl (hnkl k hrt.2)
        exact .inr ⟨g, m, cap, blk, rfl, (hfr g hlt hna).trans p1, p2, p3, p4, fun o v hv => p5 o v (hHold g o v hlt hna hv), p6⟩
  · intro k1 k2 e1 e2 u1 u2 g r1 t1 r2 t2 g1 g2
    have cross : ∀ {j off : Nat} {k : Tok} {e e' : TypeId} {u u' : Value}, E1.own (.ce j off) = some (e, u) → E1.rt (.ce j off) = true → u.ownBlock = some g → E.own k = some (e', u') → E.rt k = true →
        (∀ p ∈ killOsF cur os, p.1 ≠ k) → u'.ownBlock = some g → False := by
      intro j off k e e' u u' a1 a2 a3 a4 a5 a6 a7
      have hlt := ((hw.rights k _ _ a4 a5).1.lt a7).1
      rcases (h1.rights _ e u a1 a2).2 g a3 with q | q
      · exact acc_right (ids := ids) (w := w) hw a4 a5 a7 a6 q
      · exact absurd q (Nat.not_le_of_lt hlt)
    by_cases hk1 : ∃ j off, k1 = .cb n j off <;> by_cases hk2 : ∃ j off, k2 = .cb n j off
    · obtain ⟨j, off, rfl⟩ := hk1
      obtain ⟨j', off', rfl⟩ := hk2
      obtain ⟨n1, n2, n3⟩ := backE_new (E := E) (E1 := E1) (ids := ids) (n := n) (kl := killOsF cur os) (j := j) (off := off)
      obtain ⟨m1, m2, m3⟩ := backE_new (E := E) (E1 := E1) (ids := ids) (n := n) (kl := killOsF cur os) (j := j') (off := off')
      rw [n1] at r1; rw [n2] at t1; rw [m1] at r2; rw [m2] at t2
      have := h1.dist _ _ e1 e2 u1 u2 g r1 t1 r2 t2 g1 g2
      cases this; rfl
    · obtain ⟨j, off, rfl⟩ := hk1
      obtain ⟨n1, n2, n3⟩ := backE_new (E := E) (E1 := E1) (ids := ids) (n := n) (kl := killOsF cur os) (j := j) (off := off)
      obtain ⟨m1, m2, m3⟩ := backE_old (n := n) (E := E) (E1 := E1) (ids := ids) (kl := killOsF cur os) (k := k2) (fun j off e => hk2 ⟨j, off, e⟩)
      rw [n1] at r1; rw [n2] at t1; rw [m1] at r2; rw [m2, Bool.and_eq_true] at t2
      exact (cross r1 t1 g1 r2 t2.1 (hnkl k2 t2.2) g2).elim
    · obtain ⟨j, off, rfl⟩ := hk2
      obtain ⟨n1, n2, n3⟩ := backE_new (E := E) (E1 := E1) (ids := ids) (n := n) (kl := killOsF cur os) (j := j) (off := off)
      obtain ⟨m1, m2, m3⟩ := backE_old (n := n) (E := E) (E1 := E1) (ids := ids) (kl := killOsF cur os) (k := k1) (fun j off e => hk1 ⟨j, off, e⟩)
      rw [n1] at r2; rw [n2] at t2; rw [m1] at r1; rw [m2, Bool.and_eq_true] at t1
      exact (cross r2 t2 g2 r1 t1.1 (hnkl k1 t1.2) g1).elim
    · obtain ⟨n1, n2, n3⟩ := backE_old (n := n) (E := E) (E1 := E1) (ids := ids) (kl := killOsF cur os) (k := k1) (fun j off e => hk1 ⟨j, off, e⟩)
      obtain ⟨m1, m2, m3⟩ := backE_old (n := n) (E := E) (E1 := E1) (ids := ids) (kl := killOsF cur os) (k := k2) (fun j off e => hk2 ⟨j, off, e⟩)
      rw [n1] at r1; rw [n2, Bool.and_eq_true] at t1; rw [m1] at r2; rw [m2, Bool.and_eq_true] at t2
      exact hw.dist k1 k2 e1 e2 u1 u2 g r1 t1.1 r2 t2.1 g1 g2
  · have hna : ¬ (calleeS E cur ids os w).acc b := fun h => by
      rcases acc_old hw h with h | h
      · exact ha h
      · omega
    exact (hfr b (Nat.lt_of_lt_of_le hb hw.size) hna).trans (hw.frame b hb ha)
end
end
end Go.AI

/-
  CALLS (5): the operation. Nothing here is about one program.
-/
set_option linter.unusedVariables false
set_option linter.unusedSimpArgs false
namespace Go.AI

def ArgR (P : Program) (E : Env) (cur : Cur) (x : AV) (u : Value) : Prop := TupR P E cur x u ∨ SimpR P E x u
theorem argR_val {P : Program} {E : Env} {cur : Cur} {x y : AV} {u : Value} {r : Nat → Option Nat} (h : ArgR P E cur x u) (hr : ren r (argV x) = some y) : ValR P E cur (argV x) u := by
  rcases h with h | h
  · refine plain_tup ?_
    cases x
    case tup cs => simp [argV, plain, ren, ren1] at hr
    all_goals exact h
  · cases x
    case unk => exact h.elim
    case undef => exact h.elim
    case agg cs => exact h.elim
    case tup cs => exact h.elim
    case lst e l m => exact ⟨h, trivial⟩
    case fn p q r' =>
      cases (show CR P E.H _ u from h)
      exact ⟨[], [], rfl, trivial, trivial⟩
    all_goals exact h
theorem argVs_args {P : Program} {E : Env} {cur : Cur} : ∀ {l : List AV} {us : List Value} {r : Nat → Option Nat} {l' : List AV}, All2 (ArgR P E cur) l us → renAll r (argVs l) = some l' → All2 (ValR P E cur) (argVs l) us
  | [], us, r, l', h, _ => by rw [h.nil_left]; trivial
  | v :: l, us, r, l', h, hr => by
    obtain ⟨u, us', rfl, h1, h2⟩ := h.cons_left
    simp only [argVs, renAll, Option.bind_eq_some_iff, Option.map_eq_some_iff] at hr
    obtain ⟨x, hx, l2, hl2, rfl⟩ := hr
    exact ⟨argR_val h1 hx, argVs_args h2 hl2⟩
theorem plain_plain (v : AV) : plain (plain v) = plain v := by cases v <;> rfl
theorem aggPlain_twice : ∀ cs : List AV, aggPlain (aggPlain cs) = aggPlain cs
  | [] => rfl
  | c :: cs => by simp [aggPlain, plain_plain, aggPlain_twice cs]
theorem argV_argV (v : AV) : argV (argV v) = argV v := by
  cases v
  case agg cs => simp [argV, aggPlain_twice]
  all_goals rfl
theorem argVs_twice : ∀ l : List AV, argVs (argVs l) = argVs l
  | [] => rfl
  | v :: l => by simp [argVs, argV_argV, argVs_twice l]

section
variable {P : Program} {glob : Nat → Option AV} {ρ : FuncId → Fn} {E E' : Env} {S : Start} {M : Mem} {cur cur' : Cur} {U U' : Nat → Prop} {w w' : World} {o : Oper} {a : Act} {n : Nat}

theorem does_callee {g : FuncId} {xs : Array Value} {R : Ending → World → Prop} {Post' Pan' : Value → World → Prop} (hrun : (execOp a.eval o).run P w = (callFunc g xs).run P w) (h : Callee P g xs w R)
    (h1 : ∀ v w', R (.returned v) w' → Post' v w') (h2 : ∀ ch w', R (.panicked ch) w' → ∃ v, ch = [{ v, recovered := false }] ∧ Pan' v w') (h3 : ∀ w', ¬ R .outgrown w') : Does P o a w Post' Pan' := by
  intro K Q hk hq
  unfold Oper.wp
  rw [hrun]
  unfold Callee at h
  split at h
  · rename_i v w' hr
    rw [hr]
    exact hk _ _ (h1 _ _ h)
  · rename_i f ys w' hr
    rw [hr]
    rw [Oper.upon_enter]
    refine Calls.mono h fun e w'' he => ?_
    cases e with
    | returned v => exact hk _ _ (h1 _ _ he)
    | panicked ch =>
      obtain ⟨v, rfl, hp⟩ := h2 _ _ he
      exact hq _ _ hp
    | outgrown => exact absurd he (h3 _)
  · exact h.elim

theorem ok_call (hw : WR P E S M cur U w) (hg : GlobR P S glob) (hn : ¬ U n) {f : Operand} {A : Array Operand} {T : Array TypeId} (ho : o.op = .call { callee := .value f, args := A, argTypes := T }) {g : FuncId} (hρ : Sound P glob (ρ g) g) {first cap args : List AV}
    (hf : TupR P E cur (.fn g first cap) (a.eval f)) (hA : All2 (TupR P E cur) args (A.toList.map a.eval)) : RdOK P ρ E S M cur U w o a n (oCall P g n (first ++ args ++ cap)) := by
  obtain ⟨a', c', ef, h1, h2⟩ := inv_fn hf
  have hrun : (execOp a.eval o).run P w = (callFunc g (a' ++ A.toList.map a.eval ++ c').toArray).run P w := by
    have e1 : (a'.toArray ++ A.map a.eval) ++ c'.toArray = (a' ++ A.toList.map a.eval ++ c').toArray := by
      apply Array.ext'; simp
    simp only [execOp, ho, resolve, ef, Deferred.ofValue, Sem.run_bind, Sem.run_pure, Result.andThen_ok, invoke, e1]
  have hall : All2 (ArgR P E cur) (first ++ args ++ cap) (a' ++ A.toList.map a.eval ++ c') := ((h1.mono fun _ _ => .inr).append (hA.mono fun _ _ => .inl)).append (h2.mono fun _ _ => .inr)
  generalize first ++ args ++ cap = l at hall ⊢
  generalize a' ++ A.toList.map a.eval ++ c' = us at hall hrun
  unfold oCall
  refine RdOK.gather List.nodup_nil (by trivial) fun ids os hnd hos => ?_
  split
  · rename_i as os1 has hos1
    refine RdOK.passOs ?_
    have hbx : ∀ j cs, lnth os j = some (.box cs) → boxables cs = true := by
      intro j cs hj
      obtain ⟨id, hid, hM⟩ := all2_lnth hos j _ hj
      obtain ⟨b, hb, vs, ty, _, _, q, _⟩ := hw.mem id _ hM
      exact q
    rw [killOsF_ren hbx hos1]
    intro rds tks K R hr
    simp only [runRd] at hr
    obtain ⟨res, hres, hsound⟩ := hρ _ _ _ _ hr
    have hlen0 : (passOsF cur 0 os1).length = ids.length := by
      have : ∀ (l : List AObj) (j : Nat), (passOsF cur j l).length = l.length := by
        intro l
        induction l with
        | nil => intro j; rfl
        | cons x l ih => intro j; simp [passOsF, ih]
      rw [this, renObjs_length hos1, hos.length]
    have hval := argVs_args hall has
    have hargs := args_callee (cur := cur) (os := os) hval (by rw [argVs_twice]; exact has)
    have hstart := callee_WR hw hnd hos hos1
    have hcallee := hsound (calleeE E cur ids os) (calleeS E cur ids os w) w us rfl rfl (hg.next hw rfl hw.ext fun b hb => by
      rcases hb with ⟨id, _, hid⟩ | ⟨j, off, k, e, u, _, h1, h2, h3⟩
      · exact (hw.bnd id b hid).2.2
      · exact (hw.rights k e u h1 h2).2 b h3) (by rw [hlen0]; exact hstart) hargs
    rw [hlen0] at hcallee
    cases res with
    | ok v osr =>
      simp only at hres
      split at hres
      · rename_i v2 os2 hv2 hos2
        cases hb : Nat.beq os2.length ids.length
        · simp [hb] at hres
        · simp only [hb, cond_true] at hres
          obtain ⟨up, rds', hup, hres⟩ : ∃ up rds', upd M up = upd M (zipUp ids (backOs n 0 os2)) ∧ K (.val v2 up (killOsF cur os) rds' tks) = some R := by
            revert hres
            generalize cond (Nat.beq ids.length 0) false (roF P g) = ro
            intro hres
            cases ro with
            | false => exact ⟨_, _, rfl, hres⟩
            | true =>
              obtain ⟨h1, h2, _⟩ := keptK_some hres
              exact ⟨[], _, (upd_lies h2).symm, h1⟩
          refine ⟨_, hres, ?_⟩
          refine does_callee hrun hcallee (fun u w' hp => ?_) (fun ch w' hp => hp.elim) (fun w' hp => hp.elim)
          obtain ⟨hlen, hnamed, E1, U1, hβ1, hW1, ht, hu⟩ := hp
          obtain ⟨hL, hW⟩ := back_WR hw hn hnd hos hlen hnamed hβ1 hW1 hos2
          rw [← hup] at hW
          refine ⟨_, hL, hW, ?_⟩
          have hren : Renames (lnth ids) E1 { E1 with β := E.β } := ⟨fun i k hk b2 hb2 => by
            have hlt := lnth_lt hk
            obtain ⟨x, hx⟩ := lnth_some (l := os) (j := i) (by rw [← hos.length]; exact hlt)
            obtain ⟨id', hid', hM⟩ := all2_lnth hos i x hx
            rw [hk] at hid'; cases hid'
            obtain ⟨b3, hb3, _⟩ := hw.mem k x hM
            have := hβ1 i hlt b3 (by simp only [calleeE, hk, Option.bind_some]; exact hb3)
            rw [this] at hb2
            cases hb2
            exact hb3, fun _ _ _ h => h, rfl, rfl⟩
          exact tup_unmarked (E1 := { E1 with β := E.β }) (c1 := cur0) (renRes_unmarked hv2 hu) rfl rfl (renRes_tup hren hv2 ht)
      · cases hres
    | pan v osr =>
      simp only at hres
      split at hres
      · rename_i os2 hos2
        cases hb : Nat.beq os2.length ids.length
        · simp [hb] at hres
        · simp only [hb, cond_true] at hres
          refine ⟨_, hres, ?_⟩
          refine does_callee hrun hcallee (fun u w' hp => hp.elim) (fun ch w' hp => ?_) (fun w' hp => hp.elim)
          obtain ⟨hlen, hnamed, E1, U1, hβ1, hW1, v', rfl, hv⟩ := hp
          obtain ⟨hL, hW⟩ := back_WR hw hn hnd hos hlen hnamed hβ1 hW1 hos2
          exact ⟨v', rfl, _, hL, hW, hv⟩
      · cases hres
  · exact RdOK.fail
end
end Go.AI

/-
  TESTS AGAINST NIL, ASSERTED TYPES. Nothing here is about one program.
-/
set_option linter.unusedVariables false
set_option linter.unusedSimpArgs false
namespace Go.AI

section
variable {P : Program} {ρ : FuncId → Fn} {E : Env} {S : Start} {M : Mem} {cur : Cur} {U : Nat → Prop} {w : World} {o : Oper} {a : Act} {n : Nat}

theorem inv_nili {v : Value} (h : TupR P E cur .nili v) : v = .nilIface := by
  have h : CR P E.H .nili v := h
  cases h; rfl
theorem inv_nilp {v : Value} (h : TupR P E cur .nilp v) : v = .pointer none := by
  have h : CR P E.H .nilp v := h
  cases h; rfl
theorem inv_nilf {v : Value} (h : TupR P E cur .nilf v) : v = .nilFunc := by
  have h : CR P E.H .nilf v := h
  cases h; rfl
theorem inv_iface {t : TypeId} {x : AV} {v : Value} (h : TupR P E cur (.iface t x) v) : ∃ u, v = .iface t u ∧ CR P E.H x u := by
  have h : CR P E.H (.iface t x) v := h
  cases h with
  | iface _ _ u h1 => exact ⟨u, rfl, h1⟩

theorem eq_of_in {t : TypeId} {p q : Value} {r : Bool} (h : ∀ d, (Op.equalIn (d + 1) t p q).run P w = .ok r w) : (Op.equal t p q).run P w = .ok r w := h 9999

theorem nilEq_ok {lit : Bool} {t : TypeId} {u v : AV} {r : Bool} (h : nilEq lit (P.underlying t) u v = some r) {x y : Operand} (hl : lit = true → (∃ c, x = .const c) ∨ ∃ c, y = .const c) {p q : Value} (hx : TupR P E cur u p) (hy : TupR P E cur v q) (op : BinOp) :
    (Op.equal t p q).run P w = .ok r w ∧ (eqGuard op t x y p q).run P w = .ok () w ∧ (binOp .eql t p q).run P w = .ok (.bool r) w ∧ (binOp .neq t p q).run P w = .ok (.bool (!r)) w := by
  have key : ∀ {p q : Value}, (Op.equal t p q).run P w = .ok r w → (∀ k m, p ≠ .int k m) → (∀ k m, p ≠ .float k m) → (∀ k m n, p ≠ .complex k m n) → (∀ s, p ≠ .string s) →
      (binOp .eql t p q).run P w = .ok (.bool r) w ∧ (binOp .neq t p q).run P w = .ok (.bool (!r)) w := by
    intro p q he h1 h2 h3 h4
    cases p <;> first
      | exact absurd rfl (h1 _ _)
      | exact absurd rfl (h2 _ _)
      | exact absurd rfl (h3 _ _ _)
      | exact absurd rfl (h4 _)
      | exact ⟨by simp [binOp, he], by simp [binOp, he]⟩
  generalize hu : P.underlying t = d at h
  unfold nilEq at h
  split at h
  · rename_i ms
    cases lit with
    | false => simp at h
    | true =>
      simp only [cond_true, Option.some.injEq] at h
      subst h
      have e1 := inv_nili hx; have e2 := inv_nili hy
      subst e1; subst e2
      have he : (Op.equal t .nilIface .nilIface).run P w = .ok true w := eq_of_in fun d => by simp [Op.equalIn, run_underlying hu]
      refine ⟨he, ?_, key he (by simp) (by simp) (by simp) (by simp)⟩
      unfold eqGuard
      rcases hl rfl with ⟨c, rfl⟩ | ⟨c, rfl⟩ <;> cases op <;> simp
  · rename_i ms t' x'
    cases h
    obtain ⟨u', e1, _⟩ := inv_iface hx; have e2 := inv_nili hy
    subst e1; subst e2
    have he : (Op.equal t (.iface t' u') .nilIface).run P w = .ok false w := eq_of_in fun d => by simp [Op.equalIn, run_underlying hu]
    exact ⟨he, by unfold eqGuard; cases op <;> simp, key he (by simp) (by simp) (by simp) (by simp)⟩
  · cases h
    have e1 := inv_nilp hx; have e2 := inv_nilp hy
    subst e1; subst e2
    have he : (Op.equal t (.pointer none) (.pointer none)).run P w = .ok true w := eq_of_in fun d => by simp [Op.equalIn, run_underlying hu]
    exact ⟨he, by unfold eqGuard; cases op <;> simp, key he (by simp) (by simp) (by simp) (by simp)⟩
  · cases h
    obtain ⟨b, _, e1⟩ := inv_ptr hx; have e2 := inv_nilp hy
    subst e1; subst e2
    have he : ∀ off, (Op.equal t (.pointer (some ⟨b, off, none⟩)) (.pointer none)).run P w = .ok false w := fun off => eq_of_in fun d => by simp [Op.equalIn, run_underlying hu]
    exact ⟨he _, by unfold eqGuard; cases op <;> simp, key (he _) (by simp) (by simp) (by simp) (by simp)⟩
  · cases h
    obtain ⟨b, off, f, e1, _⟩ := rptr_cells (inv_rptr hx); have e2 := inv_nilp hy
    subst e1; subst e2
    have he : (Op.equal t (.pointer (some ⟨b, off, none⟩)) (.pointer none)).run P w = .ok false w := eq_of_in fun d => by simp [Op.equalIn, run_underlying hu]
    exact ⟨he, by unfold eqGuard; cases op <;> simp, key he (by simp) (by simp) (by simp) (by simp)⟩
  · cases h
    have e1 := inv_nilmap hx; have e2 := inv_nilmap hy
    subst e1; subst e2
    have he : (Op.equal t (.map none) (.map none)).run P w = .ok true w := eq_of_in fun d => by simp [Op.equalIn, run_underlying hu]
    exact ⟨he, by unfold eqGuard; cases op <;> simp, key he (by simp) (by simp) (by simp) (by simp)⟩
  · cases h
    obtain ⟨b, _, e1⟩ := inv_map hx; have e2 := inv_nilmap hy
    subst e1; subst e2
    have he : (Op.equal t (.map (some b)) (.map none)).run P w = .ok false w := eq_of_in fun d => by simp [Op.equalIn, run_underlying hu]
    exact ⟨he, by unfold eqGuard; cases op <;> simp, key he (by simp) (by simp) (by simp) (by simp)⟩
  · cases h
    have e1 := inv_nilf hx; have e2 := inv_nilf hy
    subst e1; subst e2
    have he : (Op.equal t .nilFunc .nilFunc).run P w = .ok true w := eq_of_in fun d => by simp [Op.equalIn, run_underlying hu]
    exact ⟨he, by unfold eqGuard; cases op <;> simp, key he (by simp) (by simp) (by simp) (by simp)⟩
  · cases h
    obtain ⟨a', c', e1, _⟩ := inv_fn hx; have e2 := inv_nilf hy
    subst e1; subst e2
    have he : ∀ f, (Op.equal t (.func (.func f) a'.toArray c'.toArray) .nilFunc).run P w = .ok false w := fun f => eq_of_in fun d => by simp [Op.equalIn, run_underlying hu]
    exact ⟨he _, by unfold eqGuard; cases op <;> simp, key (he _) (by simp) (by simp) (by simp) (by simp)⟩
  · cases h
    have e1 : p = .slice none 0 0 := (inv_lst hx).2
    have e2 : q = .slice none 0 0 := (inv_lst hy).2
    subst e1; subst e2
    have he : (Op.equal t (.slice none 0 0) (.slice none 0 0)).run P w = .ok true w := eq_of_in fun d => by simp [Op.equalIn, run_underlying hu]
    exact ⟨he, by unfold eqGuard; cases op <;> simp, key he (by simp) (by simp) (by simp) (by simp)⟩
  · cases h
    obtain ⟨ad, cap, e1, _, hn⟩ := lst_shape (inv_lst hx).1
    have e2 : q = .slice none 0 0 := (inv_lst hy).2
    subst e1; subst e2
    cases ad with
    | none => exact absurd (hn rfl).1 (by simp)
    | some ad =>
      have he : ∀ m, (Op.equal t (.slice (some ad) m cap) (.slice none 0 0)).run P w = .ok false w := fun m => eq_of_in fun d => by simp [Op.equalIn, run_underlying hu]
      exact ⟨he _, by unfold eqGuard; cases op <;> simp, key (he _) (by simp) (by simp) (by simp) (by simp)⟩
  · cases h

theorem isLit_or {x y : Operand} (h : (isLit x || isLit y) = true) : (∃ c, x = .const c) ∨ ∃ c, y = .const c := by
  rw [Bool.or_eq_true] at h
  rcases h with h | h
  · left; cases x <;> simp [isLit] at h; exact ⟨_, rfl⟩
  · right; cases y <;> simp [isLit] at h; exact ⟨_, rfl⟩

theorem ok_binN (hw : WR P E S M cur U w) {op : BinOp} {t yt : TypeId} {x y : Operand} (ho : o.op = .binOp op t x y yt) {u v : AV}
    (hx : TupR P E cur u (a.eval x)) (hy : TupR P E cur v (a.eval y)) : RdOK P ρ E S M cur U w o a n (oBinN P op t (isLit x || isLit y) u v) := by
  unfold oBinN
  split
  · exact ok_bin hw ho hx hy
  · exact ok_bin hw ho hx hy
  · exact ok_bin hw ho hx hy
  · exact ok_bin hw ho hx hy
  · split
    · refine RdOK.po hw fun r hr => ?_
      cases hs : nilEq (isLit x || isLit y) (P.underlying t) u v with
      | none => simp [hs] at hr
      | some q =>
        simp [hs] at hr; subst hr
        obtain ⟨_, h2, h3, _⟩ := nilEq_ok (w := w) hs isLit_or hx hy .eql
        exact ⟨.bool q, run_binOp ho h2 h3, cr_b _⟩
    · refine RdOK.po hw fun r hr => ?_
      cases hs : nilEq (isLit x || isLit y) (P.underlying t) u v with
      | none => simp [hs] at hr
      | some q =>
        simp [hs] at hr; subst hr
        obtain ⟨_, h2, _, h4⟩ := nilEq_ok (w := w) hs isLit_or hx hy .neq
        exact ⟨.bool (!q), run_binOp ho h2 h4, cr_b _⟩
    · exact RdOK.fail

theorem flat_tup {x : AV} {v : Value} (hf : flatV x = true) (h : CR P E.H x v) : TupR P E cur x v := by
  by_cases ha : ∃ cs, x = .agg cs
  · obtain ⟨cs, rfl⟩ := ha
    cases h with
    | agg cs vs hl h =>
      refine ⟨vs, rfl, All2.of_get .unk undef hl fun i hi => cellR_of_CR (h i hi) ?_⟩
      have : ∀ (cs : List AV), noAggs cs = true → ∀ i, i < cs.length → noAgg (lget cs i .unk) = true := by
        intro cs
        induction cs with
        | nil => intro _ i hi; simp at hi
        | cons c cs ih =>
          intro h i hi
          simp only [noAggs] at h
          cases hc : noAgg c with
          | false => simp [hc] at h
          | true =>
            simp only [hc, cond_true] at h
            cases i with
            | zero => exact hc
            | succ i => exact ih h i (by simpa using hi)
      have hn := this cs hf i hi
      intro ds hd
      rw [hd] at hn; cases hn
  · exact tupR_of_cell (cellR_of_CR h fun cs hc => ha ⟨cs, hc⟩)

theorem flat_val {x : AV} {v : Value} (hf : flatV x = true) (h : CR P E.H x v) : ValR P E cur x v := by
  have ht := flat_tup (cur := cur) hf h
  cases h <;> exact ht

theorem zeroV_val {t : TypeId} {z : AV} (h : zeroV P t = some z) (w : World) : ∃ zv, (zeroValue t).run P w = .ok zv w ∧ ValR P E cur z zv := by
  obtain ⟨zv, h1, h2, _⟩ := zeroV_ok (E := E) (cur := cur) h w
  refine ⟨zv, h1, ?_⟩
  have hn : ∀ cs, z ≠ .tup cs := by
    intro cs hc
    subst hc
    unfold zeroV at h
    split at h
    · split at h
      · cases hagg : isAggB P t with
        | false => simp [hagg] at h
        | true =>
          simp only [hagg, cond_true] at h
          simp only [Option.map_eq_some_iff] at h
          obtain ⟨_, _, h⟩ := h; cases h
      · rename_i v hz hn
        cases hagg : isAggB P t with
        | true => simp [hagg] at h
        | false =>
          simp only [hagg, cond_false] at h
          split at h
          · simp only [Option.map_eq_some_iff] at h
            obtain ⟨x, hx, h⟩ := h
            have := zeroCell_ok (P := P) (E := E) (cur := cur) hx
            cases x <;> simp [plain] at h
            simp [boxable] at this
          · cases h
      · cases h
    · cases h
  cases z <;> first | exact h2 | exact absurd rfl (hn _)

theorem ok_assert (hw : WR P E S M cur U w) {x : Operand} {xt asserted : TypeId} {ok : Bool} (ho : o.op = .typeAssert x xt asserted ok) {u : AV} (hx : TupR P E cur u (a.eval x)) :
    RdOK P ρ E S M cur U w o a n (oAssert P asserted ok u) := by
  have go : ∀ {v : Value}, (Instr.typeAssert (a.eval x) xt asserted ok).run P w = .ok v w → (execOp a.eval o).run P w = .ok (.value v) w := fun h => run_val (by rw [execOp, ho]) h
  unfold oAssert
  split
  · exact RdOK.fail
  · exact RdOK.fail
  · rename_i d d' hni hu
    split
    · rename_i t v
      obtain ⟨u', e, hu'⟩ := inv_iface hx
      refine RdOK.cond (fun ht => RdOK.cond (fun hf => ?_) fun _ => RdOK.fail) fun ht => RdOK.cond (fun hok => ?_) fun _ => RdOK.fail
      · have := Nat.eq_of_beq_eq_true ht
        subst this
        have run : (Instr.typeAssert (a.eval x) xt t ok).run P w = .ok (if ok then .tuple #[u', .bool true] else u') w := by
          rw [e]
          simp only [Instr.typeAssert, Sem.run_bind, run_underlying hu, Result.andThen_ok]
          cases d' <;> first | exact absurd rfl (hni _) | simp
        cases ok with
        | false => exact RdOK.pv hw (go run) (flat_tup hf hu')
        | true => exact RdOK.pv hw (go run) ⟨[u', .bool true], rfl, flat_val hf hu', CR.bool true, trivial⟩
      · have hne : t ≠ asserted := by intro h; subst h; rw [Nat.beq_refl] at ht; cases ht
        split
        · rename_i z hz
          obtain ⟨zv, h1, h2⟩ := zeroV_val (E := E) (cur := cur) hz w
          have run : (Instr.typeAssert (a.eval x) xt asserted ok).run P w = .ok (.tuple #[zv, .bool false]) w := by
            rw [e, hok]
            simp only [Instr.typeAssert, Sem.run_bind, run_underlying hu, Result.andThen_ok]
            cases d' <;> first | exact absurd rfl (hni _) | simp [hne, h1]
          exact RdOK.pv hw (go run) ⟨[zv, .bool false], rfl, h2, CR.bool false, trivial⟩
        · exact RdOK.fail
    · refine RdOK.cond (fun hok => ?_) fun _ => RdOK.fail
      have e := inv_nili hx
      split
      · rename_i z hz
        obtain ⟨zv, h1, h2⟩ := zeroV_val (E := E) (cur := cur) hz w
        have run : (Instr.typeAssert (a.eval x) xt asserted ok).run P w = .ok (.tuple #[zv, .bool false]) w := by
          rw [e, hok]
          simp only [Instr.typeAssert, Sem.run_bind, run_underlying hu, Result.andThen_ok]
          cases d' <;> first | exact absurd rfl (hni _) | simp [h1]
        exact RdOK.pv hw (go run) ⟨[zv, .bool false], rfl, h2, CR.bool false, trivial⟩
      · exact RdOK.fail
    · exact RdOK.fail
end
end Go.AI

/-
  EVERY OPERATION. Nothing here is about one program.
-/
set_option linter.unusedVariables false
set_option linter.unusedSimpArgs false
namespace Go.AI

section
variable {P : Program} {glob : Nat → Option AV} {ρ : FuncId → Fn} {E E' : Env} {S : Start} {M : Mem} {cur cur' : Cur} {U U' : Nat → Prop} {w w' : World} {o : Oper} {a : Act} {n : Nat}

theorem all2_one {R : AV → Value → Prop} {x : AV} {ys : List Operand} (h : All2 R [x] (ys.map a.eval)) : ∃ y, ys = [y] ∧ R x (a.eval y) := by
  match ys, h with
  | [y], h => exact ⟨y, rfl, h.1⟩
  | [], h => exact h.elim
  | _ :: _ :: _, h => exact h.2.elim
theorem all2_two {R : AV → Value → Prop} {x x' : AV} {ys : List Operand} (h : All2 R [x, x'] (ys.map a.eval)) : ∃ y y', ys = [y, y'] ∧ R x (a.eval y) ∧ R x' (a.eval y') := by
  match ys, h with
  | [y, y'], h => exact ⟨y, y', rfl, h.1, h.2.1⟩
  | [], h => exact h.elim
  | [_], h => exact h.2.elim
  | _ :: _ :: _ :: _, h => exact h.2.2.elim

theorem ok_op (hw : WR P E S M cur U w) (hg : GlobR P S glob) (hn : ¬ U n) (hρ : ∀ g, Sound P glob (ρ g) g) {vs : List AV} (hv : All2 (TupR P E cur) vs (o.op.operands.toList.map a.eval)) : RdOK P ρ E S M cur U w o a n (evalOp P o n vs) := by
  unfold evalOp
  split
  · rename_i x v heq
    rw [heq] at hv
    exact ok_move hw (.inl heq) hv.1
  · rename_i x v heq
    rw [heq] at hv
    exact ok_move hw (.inr heq) hv.1
  · rename_i c x y vx vy heq
    rw [heq] at hv
    exact ok_pick (t := true) hw heq hv.1 hv.2.1 hv.2.2.1
  · rename_i c x y vx vy heq
    rw [heq] at hv
    exact ok_pick (t := false) hw heq hv.1 hv.2.1 hv.2.2.1
  · rename_i e heq
    exact ok_alloc hw hn heq
  · rename_i e x v heq
    rw [heq] at hv
    exact ok_box hw hn heq hv.1
  · rename_i t parts heq
    rw [heq] at hv
    exact ok_build hw heq (by simpa [Op.operands] using hv)
  · rename_i t len parts heq
    rw [heq] at hv
    exact ok_buildSlice hw hn heq (by simpa [Op.operands] using hv)
  · rename_i t x v heq
    rw [heq] at hv
    exact ok_load hw heq hv.1
  · rename_i t x y u v heq
    rw [heq] at hv
    exact ok_store hw hn heq hv.1 hv.2.1
  · rename_i x i off heq
    rw [heq] at hv
    exact ok_nilCheck hw heq hv.1 (.inl ⟨_, _, rfl⟩)
  · rename_i x ks cs heq
    rw [heq] at hv
    exact ok_nilCheck hw heq hv.1 (.inr (.inl ⟨_, _, rfl⟩))
  · rename_i x f p q heq
    rw [heq] at hv
    exact ok_nilCheck hw heq hv.1 (.inr (.inr ⟨_, _, _, rfl⟩))
  · rename_i op t x y yt u v heq
    rw [heq] at hv
    exact ok_binN hw heq hv.1 hv.2.1
  · rename_i op t x v heq
    rw [heq] at hv
    exact ok_un hw heq hv.1
  · rename_i s d x v heq
    rw [heq] at hv
    exact ok_conv hw heq hv.1
  · rename_i f first cap heq
    rw [heq] at hv
    exact RdOK.cond (fun hc => ok_makeFunc hw heq (by simpa [Op.operands] using hv) hc) fun _ => RdOK.fail
  · rename_i t x v heq
    rw [heq] at hv
    exact ok_slice hw heq hv.1 (.inl ⟨rfl, rfl⟩) (.inl ⟨rfl, rfl⟩)
  · rename_i t x l v vl heq
    rw [heq] at hv
    exact ok_slice hw heq hv.1 (.inr ⟨_, _, rfl, rfl, hv.2.1⟩) (.inl ⟨rfl, rfl⟩)
  · rename_i t x l v vl heq
    rw [heq] at hv
    exact ok_slice hw heq hv.1 (.inl ⟨rfl, rfl⟩) (.inr ⟨_, _, rfl, rfl, hv.2.1⟩)
  · rename_i t x l h v vl vh heq
    rw [heq] at hv
    exact ok_slice hw heq hv.1 (.inr ⟨_, _, rfl, rfl, hv.2.1⟩) (.inr ⟨_, _, rfl, rfl, hv.2.2.1⟩)
  · rename_i s x f v heq
    rw [heq] at hv
    exact ok_fieldAddr hw heq hv.1
  · rename_i s x f v heq
    rw [heq] at hv
    exact ok_field hw heq hv.1
  · rename_i t x y u v heq
    rw [heq] at hv
    exact ok_indexAddr hw heq hv.1 hv.2.1
  · rename_i t x y u v heq
    rw [heq] at hv
    exact ok_index hw heq hv.1 hv.2.1
  · rename_i x m us heq
    rw [heq] at hv
    exact ok_extract hw heq hv.1
  · rename_i A T x heq
    rw [heq] at hv
    refine RdOK.cond (fun hT => ?_) fun _ => RdOK.fail
    have hv' : All2 (TupR P E cur) [x] (A.toList.map a.eval) := by simpa [Op.operands, Call.operands] using hv
    obtain ⟨y, hy, hx⟩ := all2_one hv'
    have hA : A = #[y] := Array.ext' (by simpa using hy)
    subst hA
    exact ok_len hw heq (Nat.le_of_ble_eq_true hT) hx
  · rename_i A T x y heq
    rw [heq] at hv
    refine RdOK.cond (fun hT => ?_) fun _ => RdOK.fail
    have hv' : All2 (TupR P E cur) [x, y] (A.toList.map a.eval) := by simpa [Op.operands, Call.operands] using hv
    obtain ⟨y1, y2, hy, hx, hx2⟩ := all2_two hv'
    have hA : A = #[y1, y2] := Array.ext' (by simpa using hy)
    subst hA
    exact ok_append hw hn heq (Nat.le_of_ble_eq_true hT) hx hx2
  · rename_i f A T g first cap args heq
    rw [heq] at hv
    have hv' : All2 (TupR P E cur) (.fn g first cap :: args) (a.eval f :: A.toList.map a.eval) := by simpa [Op.operands, Call.operands] using hv
    exact ok_call hw hg hn heq (hρ g) hv'.1 hv'.2
  · rename_i t heq
    exact ok_makeMap hw hn heq
  · rename_i t x y ok m k heq
    rw [heq] at hv
    exact ok_lookup hw heq hv.1 hv.2.1
  · rename_i t x y z m k v heq
    rw [heq] at hv
    exact ok_mapUpdate hw heq hv.1 hv.2.1 hv.2.2.1
  · rename_i t x v heq
    rw [heq] at hv
    exact ok_makeInterface' hw heq hv.1
  · rename_i y yt asserted ok v heq
    rw [heq] at hv
    exact ok_assert hw heq hv.1
  · rename_i x t v heq
    rw [heq] at hv
    exact ok_panic hw heq hv.1
  · exact RdOK.fail
end
end Go.AI

/-
  REGIONS (1): an operation's outcome, apart from who asks for it. Nothing here is about one program.
-/
set_option linter.unusedVariables false
set_option linter.unusedSimpArgs false
namespace Go.AI

/-- a callee may hand back this -/
def Yields1 (P : Program) (glob : Nat → Option AV) (g : FuncId) (args : List AV) (os : List AObj) (res : Res) : Prop :=
  ∀ (E : Env) (S : Start) (w : World) (vs : List Value), S.w = w → S.H = E.H → GlobR P S glob →
    WR P E S (fun id => lnth os id) cur0 (fun k => k < os.length) w → All2 (ValR P E cur0) args vs → Callee P g vs.toArray w (Post P E S os.length res)

inductive RdOut (P : Program) (glob : Nat → Option AV) (M : Mem) (cur : Cur) : Rd → List Nat → List Tok → Out → Prop where
  | read {id : Nat} {k : AObj → Rd} {rds : List Nat} {tks : List Tok} {out : Out} (x : AObj) (hx : M id = some x) (h : RdOut P glob M cur (k x) (id :: rds) tks out) : RdOut P glob M cur (.read id k) rds tks out
  | tok {k : Tok} {f : Nat → Rd} {rds : List Nat} {tks : List Tok} {out : Out} (h : RdOut P glob M cur (f (cur k)) rds (k :: tks) out) : RdOut P glob M cur (.tok k f) rds tks out
  | guard {r : Rd} {rds : List Nat} {tks : List Tok} {out : Out} (h : RdOut P glob M cur r rds tks out) : RdOut P glob M cur (.guard true r) rds tks out
  | pan {v : AV} {rds : List Nat} {tks : List Tok} : RdOut P glob M cur (.pan v) rds tks (.pan v [] [] rds tks)
  | ret {v : AV} {up : List (Nat × AObj)} {vers : List (Tok × Nat)} {rds : List Nat} {tks : List Tok} : RdOut P glob M cur (.ret v up vers) rds tks (.val v up vers rds tks)
  | callOk {g : FuncId} {args : List AV} {ids : List Nat} {os : List AObj} {kl : List (Tok × Nat)} {n : Nat} {ro : Bool} {rds : List Nat} {tks : List Tok} {v v' : AV} {os' os2 : List AObj} (hy : Yields1 P glob g args os (.ok v os'))
      (h1 : renRes (lnth ids) v = some v') (h2 : renObjs (lnth ids) os' = some os2) (h3 : Nat.beq os2.length ids.length = true) (h4 : ro = false) : RdOut P glob M cur (.call g args ids os kl n ro) rds tks (.val v' (zipUp ids (backOs n 0 os2)) kl rds tks)
  | callKept {g : FuncId} {args : List AV} {ids : List Nat} {os : List AObj} {kl : List (Tok × Nat)} {n : Nat} {ro : Bool} {rds : List Nat} {tks : List Tok} {v v' : AV} {os' os2 : List AObj} (hy : Yields1 P glob g args os (.ok v os'))
      (h1 : renRes (lnth ids) v = some v') (h2 : renObjs (lnth ids) os' = some os2) (h3 : Nat.beq os2.length ids.length = true) (h4 : ro = true) (h5 : Lies M ids (backOs n 0 os2)) (h6 : sameOs (backOs n 0 os2) (backOs n 0 os2) = true) : RdOut P glob M cur (.call g args ids os kl n ro) rds tks (.val v' [] kl (ids ++ rds) tks)
  | callPan {g : FuncId} {args : List AV} {ids : List Nat} {os : List AObj} {kl : List (Tok × Nat)} {n : Nat} {ro : Bool} {rds : List Nat} {tks : List Tok} {v : AV} {os' os2 : List AObj} (hy : Yields1 P glob g args os (.pan v os'))
      (h2 : renObjs (lnth ids) os' = some os2) (h3 : Nat.beq os2.length ids.length = true) : RdOut P glob M cur (.call g args ids os kl n ro) rds tks (.pan v (zipUp ids (backOs n 0 os2)) kl rds tks)

section
variable {P : Program} {glob : Nat → Option AV} {ρ : FuncId → Fn} {E E' : Env} {S : Start} {M M' : Mem} {cur cur' : Cur} {U U' : Nat → Prop} {w w' : World} {o : Oper} {a : Act} {n : Nat}

theorem rdOut_of_run (hρ : ∀ g, Sound P glob (ρ g) g) : ∀ (r : Rd) (rds : List Nat) (tks : List Tok) (K : Out → Option Res) (R : Res), runRd ρ M cur r rds tks K = some R → ∃ out, RdOut P glob M cur r rds tks out ∧ K out = some R
  | .fail, rds, tks, K, R, h => by simp [runRd] at h
  | .read id k, rds, tks, K, R, h => by
    simp only [runRd] at h
    cases hm : M id with
    | none => simp [hm] at h
    | some x =>
      simp only [hm] at h
      obtain ⟨out, h1, h2⟩ := rdOut_of_run hρ (k x) _ _ _ _ h
      exact ⟨out, .read x hm h1, h2⟩
  | .tok k f, rds, tks, K, R, h => by
    simp only [runRd] at h
    obtain ⟨out, h1, h2⟩ := rdOut_of_run hρ (f (cur k)) _ _ _ _ h
    exact ⟨out, .tok h1, h2⟩
  | .guard c r, rds, tks, K, R, h => by
    simp only [runRd] at h
    cases c with
    | false => simp at h
    | true =>
      obtain ⟨out, h1, h2⟩ := rdOut_of_run hρ r _ _ _ _ h
      exact ⟨out, .guard h1, h2⟩
  | .pan v, rds, tks, K, R, h => ⟨_, .pan, h⟩
  | .ret v up vers, rds, tks, K, R, h => ⟨_, .ret, h⟩
  | .call g args ids os kl n ro, rds, tks, K, R, h => by
    simp only [runRd] at h
    obtain ⟨res, hres, hy⟩ := hρ g _ _ _ _ h
    cases res with
    | ok v os' =>
      simp only at hres
      split at hres
      · rename_i v' os2 h1 h2
        cases hb : Nat.beq os2.length ids.length
        · simp [hb] at hres
        · simp only [hb, cond_true] at hres
          cases ro with
          | false => exact ⟨_, .callOk hy h1 h2 hb rfl, hres⟩
          | true =>
            obtain ⟨k1, k2, k3⟩ := keptK_some hres
            exact ⟨_, .callKept hy h1 h2 hb rfl k2 k3, k1⟩
      · cases hres
    | pan v os' =>
      simp only at hres
      split at hres
      · rename_i os2 h2
        cases hb : Nat.beq os2.length ids.length
        · simp [hb] at hres
        · simp only [hb, cond_true] at hres
          exact ⟨_, .callPan hy h2 hb, hres⟩
      · cases hres

open Classical in
/-- a function that hands back whatever it may -/
noncomputable def anyF (P : Program) (glob : Nat → Option AV) : FuncId → Fn := fun g args os k => if h : ∃ p : Res × Res, Yields1 P glob g args os p.1 ∧ k p.1 = some p.2 then some (Classical.choose h).2 else none
theorem anyF_sound (P : Program) (glob : Nat → Option AV) (g : FuncId) : Sound P glob (anyF P glob g) g := by
  intro args os K R h
  unfold anyF at h
  split at h
  · rename_i hex
    simp only [Option.some.injEq] at h
    have hs := Classical.choose_spec hex
    rw [h] at hs
    exact ⟨_, hs.2, hs.1⟩
  · cases h
theorem anyF_run {g : FuncId} {args : List AV} {os : List AObj} {k : Res → Option Res} {res : Res} (hy : Yields1 P glob g args os res) (hk : (k res).isSome = true) : (anyF P glob g args os k).isSome = true := by
  obtain ⟨R, hR⟩ := Option.isSome_iff_exists.1 hk
  unfold anyF
  rw [dif_pos ⟨(res, R), hy, hR⟩]
  rfl
theorem run_of_rdOut {r : Rd} {rds : List Nat} {tks : List Tok} {out : Out} (h : RdOut P glob M cur r rds tks out) {K : Out → Option Res} (hK : (K out).isSome = true) : (runRd (anyF P glob) M cur r rds tks K).isSome = true := by
  induction h with
  | read x hx h ih => simp only [runRd, hx]; exact ih hK
  | tok h ih => simp only [runRd]; exact ih hK
  | guard h ih => simp only [runRd, cond_true]; exact ih hK
  | pan => exact hK
  | ret => exact hK
  | callOk hy h1 h2 h3 h4 =>
    simp only [runRd]
    refine anyF_run hy ?_
    simp only [h1, h2, h3, h4, cond_true, cond_false]
    exact hK
  | callKept hy h1 h2 h3 h4 h5 h6 =>
    simp only [runRd]
    refine anyF_run hy ?_
    simp only [h1, h2, h3, h4, cond_true]
    rw [keptK_run h5 h6]
    exact hK
  | callPan hy h2 h3 =>
    simp only [runRd]
    refine anyF_run hy ?_
    simp only [h2, h3, cond_true]
    exact hK

open Classical in
/-- what an operation's outcome says, it does -/
theorem out_ok (hw : WR P E S M cur U w) (hg : GlobR P S glob) (hn : ¬ U n) {vs : List AV} (hv : All2 (TupR P E cur) vs (o.op.operands.toList.map a.eval)) {out : Out} (h : RdOut P glob M cur (evalOp P o n vs) [] [] out) : OutOK P E S M cur U w o a n out := by
  have h1 := run_of_rdOut h (K := fun x => if x = out then some (.ok .unk []) else none) (by simp)
  obtain ⟨R, hR⟩ := Option.isSome_iff_exists.1 h1
  obtain ⟨out', h2, h3⟩ := ok_op (ρ := anyF P glob) hw hg hn (anyF_sound P glob) hv [] [] _ R hR
  split at h2
  · rename_i he; subst he; exact h3
  · cases h2

def Out.rds : Out → List Nat
  | .val _ _ _ r _ => r
  | .pan _ _ _ r _ => r
def Out.tks : Out → List Tok
  | .val _ _ _ _ t => t
  | .pan _ _ _ _ t => t
theorem rdOut_grows {r : Rd} {rds : List Nat} {tks : List Tok} {out : Out} (h : RdOut P glob M cur r rds tks out) : (∀ i ∈ rds, i ∈ out.rds) ∧ (∀ k ∈ tks, k ∈ out.tks) := by
  induction h with
  | read x hx h ih => exact ⟨fun i hi => ih.1 i (List.mem_cons_of_mem _ hi), ih.2⟩
  | tok h ih => exact ⟨ih.1, fun i hi => ih.2 i (List.mem_cons_of_mem _ hi)⟩
  | guard h ih => exact ih
  | callKept hy h1 h2 h3 h4 h5 h6 => exact ⟨fun _ h => List.mem_append_right _ h, fun _ h => h⟩
  | _ => exact ⟨fun _ h => h, fun _ h => h⟩
/-- an outcome looks at nothing but what it says -/
theorem rdOut_local {r : Rd} {rds : List Nat} {tks : List Tok} {out : Out} (h : RdOut P glob M cur r rds tks out) (hM : ∀ i ∈ out.rds, M' i = M i) (hc : ∀ k ∈ out.tks, cur' k = cur k) : RdOut P glob M' cur' r rds tks out := by
  induction h with
  | read x hx h ih => exact .read x ((hM _ ((rdOut_grows h).1 _ List.mem_cons_self)).trans hx) (ih hM hc)
  | tok h ih =>
    have := hc _ ((rdOut_grows h).2 _ List.mem_cons_self)
    refine .tok ?_
    rw [this]
    exact ih hM hc
  | guard h ih => exact .guard (ih hM hc)
  | pan => exact .pan
  | ret => exact .ret
  | callOk hy h1 h2 h3 h4 => exact .callOk hy h1 h2 h3 h4
  | callKept hy h1 h2 h3 h4 h5 h6 => exact .callKept hy h1 h2 h3 h4 (lies_congr h5 fun i hi => hM i (List.mem_append_left _ hi)) h6
  | callPan hy h2 h3 => exact .callPan hy h2 h3
end
end Go.AI

/-
  REGIONS (2): abstract steps. Nothing here is about one program.
-/
set_option linter.unusedVariables false
set_option linter.unusedSimpArgs false
namespace Go.AI

structure St where
  sl : List AV
  M : Mem
  cur : Cur

/-- is the operation wanted? -/
def wantA (ops : List Oper) (o : Oper) (sl : List AV) : Option Bool :=
  match o.guard with
  | none => some true
  | some (g, want) => match (lnth ops g).bind (·.dst) with
    | none => none
    | some d => match lget sl d .unk with
      | .b x => some (x == want)
      | .undef => some false
      | _ => none

inductive Inf where
  | skip
  | did (v : AV) (up : List (Nat × AObj)) (vers : List (Tok × Nat)) (rds : List Nat) (tks : List Tok)

section
variable (P : Program) (glob : Nat → Option AV) (ops : List Oper) (B : Nat)

/-- an operation's operands, read -/
def opVals (o : Oper) (sl : List AV) : List AV := rdAll P glob sl (operandTypes o) 0 o.op.operands.toList

inductive AStep (j : Nat) (o : Oper) : Inf → St → St → Prop where
  | skip {s : St} (h : wantA ops o s.sl = some false) : AStep j o .skip s ⟨put s.sl o.dst .undef, s.M, s.cur⟩
  | did {s : St} {v : AV} {up : List (Nat × AObj)} {vers : List (Tok × Nat)} {rds : List Nat} {tks : List Tok} (h : wantA ops o s.sl = some true)
      (hr : RdOut P glob s.M s.cur (evalOp P o (B + j) (opVals P glob o s.sl)) [] [] (.val v up vers rds tks)) : AStep j o (.did v up vers rds tks) s ⟨put s.sl o.dst v, upd s.M up, raise s.cur vers⟩

/-- an operation that panics -/
structure APan (j : Nat) (o : Oper) (v : AV) (up : List (Nat × AObj)) (vers : List (Tok × Nat)) (rds : List Nat) (tks : List Tok) (s : St) : Prop where
  want : wantA ops o s.sl = some true
  out : RdOut P glob s.M s.cur (evalOp P o (B + j) (opVals P glob o s.sl)) [] [] (.pan v up vers rds tks)

inductive ARun : List (Nat × Oper × Inf) → St → St → Prop where
  | nil {s : St} : ARun [] s s
  | cons {j : Nat} {o : Oper} {i : Inf} {l : List (Nat × Oper × Inf)} {s s1 s2 : St} (h : AStep P glob ops B j o i s s1) (t : ARun l s1 s2) : ARun ((j, o, i) :: l) s s2
end

def numbered : Nat → List Oper → List (Nat × Oper)
  | _, [] => []
  | j, o :: l => (j, o) :: numbered (j + 1) l
/-- what is noted of a step -/
def trOf1 (j : Nat) : Inf → List Tr
  | .skip => []
  | .did _ up vers rds tks => [⟨j, rds, up.map (·.1), vers.map (·.1) ++ tks⟩]
def trOf : List (Nat × Oper × Inf) → List Tr
  | [] => []
  | (j, _, i) :: l => trOf l ++ trOf1 j i

/-! ### what is written out is what it was -/
theorem lset_same : ∀ {l : List AV} {d : Nat} {v : AV}, lget l d .unk = v → v ≠ .unk → lset l d v = l
  | [], d, v, h, hn => by cases d <;> rfl
  | a :: l, 0, v, h, hn => by simp only [lget] at h; subst h; rfl
  | a :: l, d + 1, v, h, hn => by simp only [lset]; rw [lset_same (l := l) h hn]

section
variable {P : Program} {glob : Nat → Option AV} {ρ : FuncId → Fn} {ops : List Oper} {B : Nat}

theorem guardK_spec {o : Oper} {sl : List AV} {k : Bool → List AV → Option Res} {R : Res} (h : guardK ops o sl k = some R) : ∃ b, wantA ops o sl = some b ∧ k b sl = some R := by
  unfold guardK at h
  unfold wantA
  split at h
  · rename_i hg
    exact ⟨true, by simp [hg], h⟩
  · rename_i g want hg
    simp only [hg]
    split at h
    · cases h
    · rename_i d hd
      simp only [hd]
      split at h
      · rename_i x hx
        cases x with
        | true =>
          simp only [cond_true, lset_same hx (by simp)] at h
          exact ⟨want, by cases want <;> simp [hx], h⟩
        | false =>
          simp only [cond_false, lset_same hx (by simp)] at h
          exact ⟨!want, by cases want <;> simp [hx], h⟩
      · rename_i hx
        exact ⟨false, by simp [hx], h⟩
      · cases h
theorem pickK_spec {o : Oper} {sl : List AV} {k : List AV → Option Res} {R : Res} (h : pickK o sl k = some R) : k sl = some R := by
  unfold pickK at h
  split at h
  · rename_i d x y heq
    split at h
    · rename_i b hx
      cases b with
      | true => simpa only [cond_true, lset_same hx (by simp)] using h
      | false => simpa only [cond_false, lset_same hx (by simp)] using h
    · cases h
  · exact h

/-- how a region ends -/
def OpsOut (P : Program) (glob : Nat → Option AV) (ops : List Oper) (B : Nat) (rest : List Oper) (j : Nat) (s : St) (tr : List Tr) (k : List AV → Mem → Cur → List Tr → Option Res) (kp : AV → List AV → Mem → Cur → List Tr → Nat → Option Res) (R : Res) : Prop :=
  (∃ items s', items.map (fun x => (x.1, x.2.1)) = numbered j rest ∧ ARun P glob ops B items s s' ∧ k s'.sl s'.M s'.cur (trOf items ++ tr) = some R) ∨
  (∃ pre o post items s' v up vers rds tks, rest = pre ++ o :: post ∧ items.map (fun x => (x.1, x.2.1)) = numbered j pre ∧ ARun P glob ops B items s s' ∧ APan P glob ops B (j + pre.length) o v up vers rds tks s' ∧
    kp v s'.sl (upd s'.M up) (raise s'.cur vers) (⟨j + pre.length, rds, up.map (·.1), vers.map (·.1) ++ tks⟩ :: (trOf items ++ tr)) (j + pre.length) = some R)

theorem runOps_spec (hρ : ∀ g, Sound P glob (ρ g) g) : ∀ (rest : List Oper) (j : Nat) (sl : List AV) (M : Mem) (cur : Cur) (tr : List Tr) (k : List AV → Mem → Cur → List Tr → Option Res) (kp : AV → List AV → Mem → Cur → List Tr → Nat → Option Res) (R : Res),
    runOps P glob ρ ops B rest j sl M cur tr k kp = some R → OpsOut P glob ops B rest j ⟨sl, M, cur⟩ tr k kp R
  | [], j, sl, M, cur, tr, k, kp, R, h => .inl ⟨[], ⟨sl, M, cur⟩, rfl, .nil, h⟩
  | o :: rest, j, sl, M, cur, tr, k, kp, R, h => by
    simp only [runOps] at h
    obtain ⟨b, hb, h⟩ := guardK_spec h
    have more : ∀ {i : Inf} {s1 : St}, AStep P glob ops B j o i ⟨sl, M, cur⟩ s1 → runOps P glob ρ ops B rest (j + 1) s1.sl s1.M s1.cur (trOf1 j i ++ tr) k kp = some R → OpsOut P glob ops B (o :: rest) j ⟨sl, M, cur⟩ tr k kp R := by
      intro i s1 hstep hrun
      rcases runOps_spec hρ rest (j + 1) _ _ _ _ k kp R hrun with ⟨items, s', h1, h2, h3⟩ | ⟨pre, o', post, items, s', v, up, vers, rds, tks, h0, h1, h2, h3, h4⟩
      · exact .inl ⟨(j, o, i) :: items, s', by simp [numbered, h1], .cons hstep h2, by simpa [trOf] using h3⟩
      · refine .inr ⟨o :: pre, o', post, (j, o, i) :: items, s', v, up, vers, rds, tks, by simp [h0], by simp [numbered, h1], .cons hstep h2, ?_, ?_⟩
        · have : j + (o :: pre).length = j + 1 + pre.length := by simp; omega
          rw [this]; exact h3
        · have : j + (o :: pre).length = j + 1 + pre.length := by simp; omega
          rw [this]; simpa [trOf] using h4
    cases b with
    | false =>
      exact more (.skip hb) (by simpa [trOf1] using h)
    | true =>
      simp only at h
      have h := pickK_spec h
      obtain ⟨out, ho, h⟩ := rdOut_of_run hρ _ _ _ _ _ h
      cases out with
      | val v up vers rds tks =>
        simp only [forceV_eq, forceU_eq, forceS_eq] at h
        exact more (.did hb ho) (by simpa [trOf1] using h)
      | pan v up vers rds tks =>
        exact .inr ⟨[], o, rest, [], ⟨sl, M, cur⟩, v, up, vers, rds, tks, rfl, rfl, .nil, ⟨hb, ho⟩, by simpa [trOf] using h⟩
end
end Go.AI

/-
  REGIONS (3): abstract steps and the model's. Nothing here is about one program.
-/
set_option linter.unusedVariables false
set_option linter.unusedSimpArgs false
namespace Go.AI

theorem lset_get {α : Type} (l : List α) (d t : Nat) (v x : α) : lget (lset l d v) t x = if d = t ∧ t < l.length then v else lget l t x := by
  by_cases h : d = t
  · subst h
    by_cases hl : d < l.length
    · rw [if_pos ⟨rfl, hl⟩]; exact lget_lset_same l d v x hl
    · rw [if_neg (fun h => hl h.2)]
      rw [lget_eq, lget_eq, lset_eq, List.getD, List.getD, List.getElem?_eq_none (by simp; omega), List.getElem?_eq_none (by omega)]
  · rw [if_neg (fun h' => h h'.1)]
    exact lget_lset_ne l d t v x h

section
variable {P : Program} {glob : Nat → Option AV} {ρ : FuncId → Fn} {E E' : Env} {S : Start} {cur cur' : Cur} {U U' : Nat → Prop} {w w' : World} {a : Act} {ops : List Oper} {B : Nat}

theorem SlR.put {sl : List AV} (h : SlR P E cur sl a.tmps) (dst : Option Tmp) {v : AV} {u : Value} (hv : TupR P E cur v u) : SlR P E cur (AI.put sl dst v) (a.put dst u).tmps := by
  cases dst with
  | none => exact h
  | some d =>
    refine ⟨by simp [AI.put, Act.put, lset_length, h.1], fun t ht => ?_⟩
    simp only [AI.put, lset_length] at ht
    simp only [AI.put, Act.put]
    rw [lset_get]
    have h2 := h.2 t ht
    have hs : t < a.tmps.size := by rw [← h.1]; exact ht
    by_cases hd : d = t
    · subst hd
      rw [if_pos ⟨rfl, ht⟩]
      have : (a.tmps.setIfInBounds d u).getD d undef = u := by simp [Array.getD_eq_getD_getElem?, hs]
      rw [this]; exact hv
    · rw [if_neg fun h => hd h.1]
      have : (a.tmps.setIfInBounds d u).getD t undef = a.tmps.getD t undef := by simp [Array.getD_eq_getD_getElem?, Array.getElem?_setIfInBounds_ne hd]
      rw [this]; exact h2

theorem wanted_ok {opsA : Array Oper} (hops : opsA.toList = ops) {o : Oper} {sl : List AV} {b : Bool} (h : wantA ops o sl = some b) (hs : SlR P E cur sl a.tmps) : Region.wanted o (yielded opsA a.tmps) = b := by
  unfold wantA at h
  unfold Region.wanted
  split at h
  · rename_i hg
    simp only [hg]
    exact Option.some.inj h
  · rename_i g want hg
    simp only [hg]
    have hl : ((opsA[g]?).bind (·.dst)) = (lnth ops g).bind (·.dst) := by rw [← hops, lnth_eq]; simp
    unfold yielded
    rw [hl]
    split at h
    · cases h
    · rename_i d hd
      simp only [hd, Option.bind_some]
      have hlt : ∀ {x : AV}, lget sl d .unk = x → x ≠ .unk → d < sl.length := by
        intro x hx hne
        rcases Nat.lt_or_ge d sl.length with h | h
        · exact h
        · rw [lget_eq, List.getD, List.getElem?_eq_none h] at hx; exact absurd hx.symm hne
      have hget : ∀ {x : AV}, lget sl d .unk = x → x ≠ .unk → ∃ u, a.tmps[d]? = some u ∧ TupR P E cur x u := by
        intro x hx hne
        have h1 := hlt hx hne
        have h2 := hs.2 d h1
        have h3 : lget sl d .undef = x := by
          rw [lget_eq, List.getD, List.getElem?_eq_getElem h1] at hx ⊢; exact hx
        rw [h3] at h2
        have hsz : d < a.tmps.size := by rw [← hs.1]; exact h1
        refine ⟨a.tmps[d], Array.getElem?_eq_getElem hsz, ?_⟩
        simpa [Array.getD_eq_getD_getElem?, Array.getElem?_eq_getElem hsz] using h2
      split at h
      · rename_i x hx
        obtain ⟨u, hu, ht⟩ := hget hx (by simp)
        rw [inv_b ht] at hu
        rw [hu]
        simp only [Option.some.injEq] at h
        rw [← h]
        cases x <;> cases want <;> rfl
      · rename_i hx
        obtain ⟨u, hu, ht⟩ := hget hx (by simp)
        have : u = undef := ht
        subst this
        rw [hu]
        simp only [Option.some.injEq] at h
        subst h
        cases want <;> rfl
      · cases h

/-- an abstract step, and the model's -/
theorem step_ok {s s1 : St} (hw : WR P E S s.M s.cur U w) {j : Nat} (hn : ¬ U (B + j)) (hg : GlobR P S glob) (hs : SlR P E s.cur s.sl a.tmps) {opsA : Array Oper} (hops : opsA.toList = ops) {o : Oper} (hj : opsA[j]? = some o) {i : Inf}
    (h : AStep P glob ops B j o i s s1) {Q : Exit → Act → World → Prop} {K : Act → World → Prop}
    (hK : ∀ a1 w1 E1, WR P E1 S s1.M s1.cur (fun k => U k ∨ k = B + j) w1 → Later E s.cur E1 s1.cur → SlR P E1 s1.cur s1.sl a1.tmps → a1.defers = a.defers → K a1 w1) : wpOp P opsA Q j K a w := by
  unfold wpOp
  simp only [hj]
  have hdef : ∀ (dst : Option Tmp) (u : Value), (a.put dst u).defers = a.defers := fun dst u => by cases dst <;> rfl
  cases h with
  | skip hwant =>
    rw [if_neg (by rw [wanted_ok hops hwant hs]; simp)]
    exact hK _ _ E (hw.more fun _ h => .inl h) (Later.refl _ _) (hs.put o.dst (v := .undef) (u := undef) rfl) (hdef _ _)
  | did hwant hr =>
    rw [if_pos (wanted_ok hops hwant hs)]
    refine .inl ?_
    have hv := rdAll_ok hw hg hs (operandTypes o) 0 o.op.operands.toList
    have hout := out_ok hw hg hn hv hr
    refine hout _ _ (fun u w1 hp => ?_) (fun _ _ hp => hp.elim)
    obtain ⟨E1, hL, hW, ht⟩ := hp
    exact hK _ _ E1 hW hL ((SlR.later hL hs).put o.dst ht) (hdef _ _)

/-- .. that panics -/
theorem pan_ok {s : St} (hw : WR P E S s.M s.cur U w) {j : Nat} (hn : ¬ U (B + j)) (hg : GlobR P S glob) (hs : SlR P E s.cur s.sl a.tmps) {opsA : Array Oper} (hops : opsA.toList = ops) {o : Oper} (hj : opsA[j]? = some o)
    {v : AV} {up : List (Nat × AObj)} {vers : List (Tok × Nat)} {rds : List Nat} {tks : List Tok} (h : APan P glob ops B j o v up vers rds tks s) {Q : Exit → Act → World → Prop} {K : Act → World → Prop}
    (hQ : ∀ v1 w1 E1, WR P E1 S (upd s.M up) (raise s.cur vers) (fun k => U k ∨ k = B + j) w1 → Later E s.cur E1 (raise s.cur vers) → CR P E1.H v v1 → Q (.panic [{ v := v1, recovered := false }]) a w1) : wpOp P opsA Q j K a w := by
  unfold wpOp
  simp only [hj]
  rw [if_pos (wanted_ok hops h.want hs)]
  refine .inl ?_
  have hv := rdAll_ok hw hg hs (operandTypes o) 0 o.op.operands.toList
  have hout := out_ok hw hg hn hv h.out
  refine hout _ _ (fun _ _ hp => hp.elim) (fun u w1 hp => ?_)
  obtain ⟨E1, hL, hW, ht⟩ := hp
  exact hQ _ _ E1 hW hL ht

/-! ### in the order of the text -/
theorem numbered_get : ∀ (j : Nat) (l : List Oper) {i : Nat} {o : Oper}, (i, o) ∈ numbered j l → ∃ k, i = j + k ∧ l[k]? = some o
  | j, [], i, o, h => by cases h
  | j, x :: l, i, o, h => by
    rcases List.mem_cons.1 h with h | h
    · cases h; exact ⟨0, rfl, rfl⟩
    · obtain ⟨k, h1, h2⟩ := numbered_get (j + 1) l h
      exact ⟨k + 1, by omega, by simpa using h2⟩

theorem text_ok (hg : GlobR P S glob) {opsA : Array Oper} (hops : opsA.toList = ops) {Q : Exit → Act → World → Prop} {K : Act → World → Prop} {d0 : List Deferred} {C : St} {E0 : Env} :
    ∀ {items : List (Nat × Oper × Inf)} {rest : List Oper} {j : Nat} {s : St} {E : Env} {a : Act} {w : World}, items.map (fun x => (x.1, x.2.1)) = numbered j rest → (∀ k, rest[k]? = opsA[j + k]? ∨ rest.length ≤ k) → ARun P glob ops B items s C →
      WR P E S s.M s.cur (fun k => k < B + j) w → SlR P E s.cur s.sl a.tmps → Later E0 cur E s.cur → a.defers = d0 →
      (∀ a1 w1 E1, WR P E1 S C.M C.cur (fun k => k < B + (j + rest.length)) w1 → Later E0 cur E1 C.cur → SlR P E1 C.cur C.sl a1.tmps → a1.defers = d0 → K a1 w1) →
      List.foldr (fun i K => wpOp P opsA Q i K) K (List.range' j rest.length) a w
  | items, [], j, s, E, a, w, hi, hr, hrun, hw, hs, hL, hd, hK => by
    simp only [numbered, List.map_eq_nil_iff] at hi
    subst hi
    cases hrun
    exact hK a w E hw hL hs hd
  | items, o :: rest, j, s, E, a, w, hi, hr, hrun, hw, hs, hL, hd, hK => by
    cases hrun with
    | nil => simp [numbered] at hi
    | @cons j' o' i' l' s0 s1 s2 h t =>
      simp only [List.map_cons, numbered, List.cons.injEq, Prod.mk.injEq] at hi
      obtain ⟨⟨e1, e2⟩, hi⟩ := hi
      rw [e1, e2] at h
      have hj : opsA[j]? = some o := by
        rcases hr 0 with h | h
        · simpa using h.symm
        · simp at h
      simp only [List.length_cons, List.range'_succ, List.foldr_cons]
      refine step_ok hw (by omega) hg hs hops hj h fun a1 w1 E1 hW hL1 hs1 hd1 => ?_
      refine text_ok hg hops hi (fun k => ?_) t (hW.more (U' := fun k => k < B + (j + 1)) fun k hk => by rcases hk with h | h <;> omega) hs1 (hL.trans hL1) (hd1.trans hd) fun a2 w2 E2 hW2 hL2 hs2 hd2 => ?_
      · rcases hr (k + 1) with h | h
        · left; simpa [Nat.add_assoc, Nat.add_comm 1 k] using h
        · right; simpa using h
      · refine hK a2 w2 E2 ?_ hL2 hs2 hd2
        simpa [Nat.add_assoc, Nat.add_comm 1] using hW2

theorem foldr_wpOps {opsA : Array Oper} {Q : Exit → Act → World → Prop} (l l' : List Nat) : List.foldr (fun i K => wpOp P opsA Q i K) (wpOps P opsA Q l') l = wpOps P opsA Q (l ++ l') := by
  induction l with
  | nil => rfl
  | cons i l ih =>
    funext a w
    rw [List.foldr_cons, ih, List.cons_append, wpOps_cons]
end
end Go.AI

/-
  REGIONS (4): steps that may change places. Nothing here is about one program.
-/
set_option linter.unusedVariables false
set_option linter.unusedSimpArgs false
namespace Go.AI

def Inf.wrs : Inf → List Nat
  | .skip => []
  | .did _ up _ _ _ => up.map (·.1)
def Inf.rds : Inf → List Nat
  | .skip => []
  | .did _ _ _ r _ => r
def Inf.tks : Inf → List Tok
  | .skip => []
  | .did _ _ vers _ t => vers.map (·.1) ++ t

structure Ind (x y : Inf) : Prop where
  wr : ∀ i ∈ x.wrs, i ∉ y.rds
  ww : ∀ i ∈ x.wrs, i ∉ y.wrs
  rw : ∀ i ∈ y.wrs, i ∉ x.rds
  tt : ∀ k ∈ x.tks, k ∉ y.tks

theorem upd_mem : ∀ (l : List (Nat × AObj)) (M M' : Mem) (k : Nat), (k ∉ l.map (·.1) → upd M l k = M k) ∧ (k ∈ l.map (·.1) → upd M l k = upd M' l k)
  | [], M, M', k => ⟨fun _ => rfl, fun h => by cases h⟩
  | (id, o) :: l, M, M', k => by
    have ih := upd_mem l (fun k => cond (Nat.beq k id) (some o) (M k)) (fun k => cond (Nat.beq k id) (some o) (M' k)) k
    simp only [List.map_cons, List.mem_cons, not_or, upd]
    refine ⟨fun h => ?_, fun h => ?_⟩
    · rw [ih.1 h.2]
      have : Nat.beq k id = false := by
        cases hb : Nat.beq k id
        · rfl
        · exact absurd (Nat.eq_of_beq_eq_true hb) h.1
      simp [this]
    · by_cases hl : k ∈ l.map (·.1)
      · exact ih.2 hl
      · have ih' := upd_mem l (fun k => cond (Nat.beq k id) (some o) (M' k)) (fun k => cond (Nat.beq k id) (some o) (M k)) k
        rw [ih.1 hl, ih'.1 hl]
        rcases h with rfl | h
        · simp
        · exact absurd h hl
theorem raise_mem2 : ∀ (l : List (Tok × Nat)) (c c' : Cur) (k : Tok), (k ∉ l.map (·.1) → raise c l k = c k) ∧ (k ∈ l.map (·.1) → raise c l k = raise c' l k)
  | [], c, c', k => ⟨fun _ => rfl, fun h => by cases h⟩
  | (k0, m) :: l, c, c', k => by
    have ih := raise_mem2 l (fun k' => cond (decide (k' = k0)) m (c k')) (fun k' => cond (decide (k' = k0)) m (c' k')) k
    simp only [List.map_cons, List.mem_cons, not_or, raise]
    refine ⟨fun h => ?_, fun h => ?_⟩
    · rw [ih.1 h.2]; simp [h.1]
    · by_cases hl : k ∈ l.map (·.1)
      · exact ih.2 hl
      · have ih' := raise_mem2 l (fun k' => cond (decide (k' = k0)) m (c' k')) (fun k' => cond (decide (k' = k0)) m (c k')) k
        rw [ih.1 hl, ih'.1 hl]
        rcases h with rfl | h
        · simp
        · exact absurd h hl
theorem upd_comm {l l' : List (Nat × AObj)} (h : ∀ i ∈ l.map (·.1), i ∉ l'.map (·.1)) (M : Mem) : upd (upd M l) l' = upd (upd M l') l := by
  funext k
  by_cases h1 : k ∈ l.map (·.1)
  · rw [(upd_mem l' (upd M l) M k).1 (h k h1), (upd_mem l M (upd M l') k).2 h1]
  · rw [(upd_mem l (upd M l') M k).1 h1]
    by_cases h2 : k ∈ l'.map (·.1)
    · exact (upd_mem l' (upd M l) M k).2 h2
    · rw [(upd_mem l' (upd M l) M k).1 h2, (upd_mem l' M M k).1 h2, (upd_mem l M M k).1 h1]
theorem raise_comm {l l' : List (Tok × Nat)} (h : ∀ i ∈ l.map (·.1), i ∉ l'.map (·.1)) (c : Cur) : raise (raise c l) l' = raise (raise c l') l := by
  funext k
  by_cases h1 : k ∈ l.map (·.1)
  · rw [(raise_mem2 l' (raise c l) c k).1 (h k h1), (raise_mem2 l c (raise c l') k).2 h1]
  · rw [(raise_mem2 l (raise c l') c k).1 h1]
    by_cases h2 : k ∈ l'.map (·.1)
    · exact (raise_mem2 l' (raise c l) c k).2 h2
    · rw [(raise_mem2 l' (raise c l) c k).1 h2, (raise_mem2 l' c c k).1 h2, (raise_mem2 l c c k).1 h1]
theorem put_comm (sl : List AV) {x y : Option Tmp} (v u : AV) (h : ∀ d, x = some d → y ≠ some d) : put (put sl x v) y u = put (put sl y u) x v := by
  cases x with
  | none => rfl
  | some d =>
    cases y with
    | none => rfl
    | some e =>
      have hne : d ≠ e := fun he => h d rfl (he ▸ rfl)
      simp only [put, lset_eq]
      exact List.set_comm _ _ hne

section
variable {P : Program} {glob : Nat → Option AV} {opsA : Array Oper} {ops : List Oper} {B : Nat}

theorem rd_put (sl : List AV) (dst : Option Tmp) (v : AV) (t : TypeId) {x : Operand} (h : ∀ d, dst = some d → x ≠ .tmp d) : rd P glob (put sl dst v) t x = rd P glob sl t x := by
  cases dst with
  | none => rfl
  | some d =>
    cases x with
    | tmp k =>
      have hne : d ≠ k := fun e => h d rfl (e ▸ rfl)
      simp only [rd, put]
      exact lget_lset_ne _ _ _ _ _ hne
    | _ => rfl
theorem rdAll_put (sl : List AV) (dst : Option Tmp) (v : AV) (ty : Nat → TypeId) : ∀ (j : Nat) (xs : List Operand), (∀ d, dst = some d → .tmp d ∉ xs) → rdAll P glob (put sl dst v) ty j xs = rdAll P glob sl ty j xs
  | _, [], _ => rfl
  | j, x :: xs, h => by
    simp only [rdAll]
    rw [rd_put sl dst v _ (fun d hd e => h d hd (by simp [e])), rdAll_put sl dst v ty (j + 1) xs fun d hd hm => h d hd (List.mem_cons_of_mem _ hm)]
theorem opVals_put (o : Oper) (sl : List AV) (dst : Option Tmp) (v : AV) (h : ∀ d, dst = some d → d ∉ o.looksAt opsA) : opVals P glob o (put sl dst v) = opVals P glob o sl := by
  refine rdAll_put sl dst v _ 0 _ fun d hd hm => h d hd ?_
  exact List.mem_append_left _ (List.mem_filterMap.2 ⟨.tmp d, hm, rfl⟩)
theorem wantA_put (hops : opsA.toList = ops) (o : Oper) (sl : List AV) (dst : Option Tmp) (v : AV) (h : ∀ d, dst = some d → d ∉ o.looksAt opsA) : wantA ops o (put sl dst v) = wantA ops o sl := by
  cases dst with
  | none => rfl
  | some d =>
    unfold wantA
    cases hg : o.guard with
    | none => rfl
    | some gw =>
      obtain ⟨g, want⟩ := gw
      simp only
      cases ht : (lnth ops g).bind (·.dst) with
      | none => rfl
      | some t =>
        have hl : ((opsA[g]?).bind (·.dst)) = some t := by rw [← ht, ← hops, lnth_eq]; simp
        have hne : d ≠ t := fun e => h d rfl (by subst e; simp [Oper.looksAt, hg, hl])
        simp only [put]
        rw [lget_lset_ne _ _ _ _ _ hne]

theorem swap (hops : opsA.toList = ops) {i j : Nat} {oi oj : Oper} {x y : Inf} {s s1 s2 : St} (hap : Oper.apart opsA oi oj = true) (hind : Ind x y) (h1 : AStep P glob ops B i oi x s s1) (h2 : AStep P glob ops B j oj y s1 s2) :
    ∃ s1', AStep P glob ops B j oj y s s1' ∧ AStep P glob ops B i oi x s1' s2 := by
  obtain ⟨p1, p2, p3⟩ := Oper.apart_spec hap
  cases h1 with
  | skip w1 =>
    cases h2 with
    | skip w2 =>
      rw [wantA_put hops oj s.sl oi.dst .undef p1] at w2
      refine ⟨_, .skip w2, ?_⟩
      have := AStep.skip (P := P) (glob := glob) (B := B) (j := i) (ops := ops) (o := oi) (s := ⟨put s.sl oj.dst .undef, s.M, s.cur⟩) (by rw [wantA_put hops oi s.sl oj.dst .undef p3]; exact w1)
      rw [put_comm s.sl .undef .undef p2]
      exact this
    | did w2 r2 =>
      rename_i v up vers rds tks
      rw [wantA_put hops oj s.sl oi.dst .undef p1] at w2
      rw [opVals_put oj s.sl oi.dst .undef p1] at r2
      refine ⟨_, .did w2 r2, ?_⟩
      have := AStep.skip (P := P) (glob := glob) (B := B) (j := i) (ops := ops) (o := oi) (s := ⟨put s.sl oj.dst v, upd s.M up, raise s.cur vers⟩) (by rw [wantA_put hops oi s.sl oj.dst v p3]; exact w1)
      rw [put_comm s.sl .undef v p2]
      exact this
  | did w1 r1 =>
    rename_i v up vers rds tks
    cases h2 with
    | skip w2 =>
      rw [wantA_put hops oj s.sl oi.dst v p1] at w2
      refine ⟨_, .skip w2, ?_⟩
      have := AStep.did (P := P) (glob := glob) (B := B) (j := i) (ops := ops) (o := oi) (s := ⟨put s.sl oj.dst .undef, s.M, s.cur⟩) (v := v) (up := up) (vers := vers) (rds := rds) (tks := tks) (by rw [wantA_put hops oi s.sl oj.dst .undef p3]; exact w1) (by rw [opVals_put oi s.sl oj.dst .undef p3]; exact r1)
      rw [put_comm s.sl v .undef p2]
      exact this
    | did w2 r2 =>
      rename_i v' up' vers' rds' tks'
      rw [wantA_put hops oj s.sl oi.dst v p1] at w2
      rw [opVals_put oj s.sl oi.dst v p1] at r2
      have hr2 := rdOut_local (M' := s.M) (cur' := s.cur) r2 (fun k hk => ((upd_mem up s.M s.M k).1 fun hm => hind.wr k hm hk).symm)
        (fun k hk => ((raise_mem2 vers s.cur s.cur k).1 fun hm => hind.tt k (List.mem_append_left _ hm) (List.mem_append_right _ hk)).symm)
      refine ⟨_, .did w2 hr2, ?_⟩
      have hr1 := rdOut_local (M' := upd s.M up') (cur' := raise s.cur vers') r1 (fun k hk => (upd_mem up' s.M s.M k).1 fun hm => hind.rw k hm hk)
        (fun k hk => (raise_mem2 vers' s.cur s.cur k).1 fun hm => hind.tt k (List.mem_append_right _ hk) (List.mem_append_left _ hm))
      have := AStep.did (P := P) (glob := glob) (B := B) (j := i) (ops := ops) (o := oi) (s := ⟨put s.sl oj.dst v', upd s.M up', raise s.cur vers'⟩) (v := v) (up := up) (vers := vers) (rds := rds) (tks := tks) (by rw [wantA_put hops oi s.sl oj.dst v' p3]; exact w1) (by rw [opVals_put oi s.sl oj.dst v' p3]; exact hr1)
      rw [put_comm s.sl v v' p2, upd_comm (fun k hk => hind.ww k hk), raise_comm (fun k hk hk' => hind.tt k (List.mem_append_left _ hk) (List.mem_append_left _ hk'))]
      exact this

/-- a step that nothing ahead of it holds up is made first -/
theorem bubble (hops : opsA.toList = ops) {j : Nat} {o : Oper} {y : Inf} {post : List (Nat × Oper × Inf)} {s' : St} : ∀ {pre : List (Nat × Oper × Inf)} {s : St}, ARun P glob ops B (pre ++ (j, o, y) :: post) s s' → (∀ x ∈ pre, Oper.apart opsA x.2.1 o = true ∧ Ind x.2.2 y) →
    ∃ s1, AStep P glob ops B j o y s s1 ∧ ARun P glob ops B (pre ++ post) s1 s'
  | [], s, h, _ => by
    cases h with
    | cons h t => exact ⟨_, h, t⟩
  | (i, oi, x) :: pre, s, h, hp => by
    cases h with
    | cons h t =>
      obtain ⟨s2, h2, t2⟩ := bubble hops t fun z hz => hp z (List.mem_cons_of_mem _ hz)
      obtain ⟨q1, q2⟩ := hp (i, oi, x) List.mem_cons_self
      obtain ⟨s1', h3, h4⟩ := swap hops q1 q2 h h2
      exact ⟨s1', h3, .cons h4 t2⟩

/-- a panic ahead of which nothing counts comes first -/
theorem pan_first (hops : opsA.toList = ops) {j : Nat} {o : Oper} {v : AV} {up : List (Nat × AObj)} {vers : List (Tok × Nat)} {rds : List Nat} {tks : List Tok} : ∀ {items : List (Nat × Oper × Inf)} {s C : St}, ARun P glob ops B items s C → APan P glob ops B j o v up vers rds tks C →
    (∀ x ∈ items, Oper.apart opsA x.2.1 o = true ∧ x.2.2.wrs = [] ∧ x.2.2.tks = []) → C.M = s.M ∧ C.cur = s.cur ∧ APan P glob ops B j o v up vers rds tks s
  | [], s, C, h, hp, _ => by
    cases h
    exact ⟨rfl, rfl, hp⟩
  | (i, oi, x) :: items, s, C, h, hp, hq => by
    cases h with
    | cons h t =>
      obtain ⟨e1, e2, hp'⟩ := pan_first hops t hp fun z hz => hq z (List.mem_cons_of_mem _ hz)
      obtain ⟨q1, q2, q3⟩ := hq (i, oi, x) List.mem_cons_self
      obtain ⟨p1, p2, p3⟩ := Oper.apart_spec q1
      cases h with
      | skip w1 =>
        refine ⟨e1, e2, ⟨?_, ?_⟩⟩
        · rw [← wantA_put hops o s.sl oi.dst .undef p1]; exact hp'.want
        · rw [← opVals_put o s.sl oi.dst .undef p1]; exact hp'.out
      | did w1 r1 =>
        rename_i v' up' vers' rds' tks'
        simp only [Inf.wrs, List.map_eq_nil_iff] at q2
        simp only [Inf.tks, List.append_eq_nil_iff, List.map_eq_nil_iff] at q3
        obtain ⟨q3, q4⟩ := q3
        subst q2 q3 q4
        refine ⟨e1, e2, ⟨?_, ?_⟩⟩
        · rw [← wantA_put hops o s.sl oi.dst v' p1]; exact hp'.want
        · rw [← opVals_put o s.sl oi.dst v' p1]; exact hp'.out
end
end Go.AI

/-
  REGIONS (5): any order. Nothing here is about one program.
-/
set_option linter.unusedVariables false
set_option linter.unusedSimpArgs false
namespace Go.AI

/-! ### what is bound -/
theorem foldl_testBit (acc : Array Nat) (j : Nat) : ∀ (l : List Edge) (s : Nat), (l.foldl (fun s e => if Region.binds .any e then s ||| 2 ^ e.on ||| acc.getD e.on 0 else s) s).testBit j = true →
    s.testBit j = true ∨ ∃ e ∈ l, Region.binds .any e = true ∧ (e.on = j ∨ (acc.getD e.on 0).testBit j = true)
  | [], s, h => .inl h
  | e :: l, s, h => by
    rcases foldl_testBit acc j l _ h with h | ⟨e', he, hb, h⟩
    · dsimp only at h
      split at h
      · rename_i hb
        simp only [Nat.testBit_or, Bool.or_eq_true] at h
        rcases h with (h | h) | h
        · exact .inl h
        · refine .inr ⟨e, List.mem_cons_self, hb, .inl ?_⟩
          rw [Nat.testBit_two_pow] at h
          simpa using h
        · exact .inr ⟨e, List.mem_cons_self, hb, .inr h⟩
      · exact .inl h
    · exact .inr ⟨e', List.mem_cons_of_mem _ he, hb, h⟩

theorem before_go : ∀ (l : List Oper) (acc : Array Nat), (∀ i, i < acc.size → (l.foldl (fun acc o => acc.push (o.after.foldl (fun s e => if Region.binds .any e then s ||| 2 ^ e.on ||| acc.getD e.on 0 else s) 0)) acc)[i]? = acc[i]?) ∧
    ∀ k o, l[k]? = some o → ∀ j, ((l.foldl (fun acc o => acc.push (o.after.foldl (fun s e => if Region.binds .any e then s ||| 2 ^ e.on ||| acc.getD e.on 0 else s) 0)) acc).getD (acc.size + k) 0).testBit j = true →
      ∃ e ∈ o.after.toList, Region.binds .any e = true ∧ (e.on = j ∨ ((l.foldl (fun acc o => acc.push (o.after.foldl (fun s e => if Region.binds .any e then s ||| 2 ^ e.on ||| acc.getD e.on 0 else s) 0)) acc).getD e.on 0).testBit j = true)
  | [], acc => ⟨fun _ _ => rfl, fun k o h => by simp at h⟩
  | o :: l, acc => by
    obtain ⟨h1, h2⟩ := before_go l (acc.push (o.after.foldl (fun s e => if Region.binds .any e then s ||| 2 ^ e.on ||| acc.getD e.on 0 else s) 0))
    simp only [List.foldl_cons]
    refine ⟨fun i hi => ?_, fun k o' hk j hj => ?_⟩
    · rw [h1 i (by simp; omega), Array.getElem?_push, if_neg (by omega)]
    · cases k with
      | succ k =>
        have := h2 k o' (by simpa using hk) j
        simp only [Array.size_push] at this
        rw [show acc.size + 1 + k = acc.size + (k + 1) from by omega] at this
        exact this hj
      | zero =>
        simp only [List.getElem?_cons_zero, Option.some.injEq] at hk
        subst hk
        have hz := h1 acc.size (by simp)
        rw [Array.getElem?_push, if_pos rfl] at hz
        rw [Nat.add_zero, Array.getD_eq_getD_getElem?, hz, Option.getD_some, ← Array.foldl_toList] at hj
        rcases foldl_testBit acc j o.after.toList 0 hj with h | ⟨e, he, hb, h⟩
        · simp at h
        · refine ⟨e, he, hb, h.imp id fun h => ?_⟩
          have hlt : e.on < acc.size := by
            rcases Nat.lt_or_ge e.on acc.size with hlt | hge
            · exact hlt
            · rw [Array.getD_eq_getD_getElem?, Array.getElem?_eq_none hge] at h; simp at h
          have hz' := h1 e.on (by simp; omega)
          rw [Array.getElem?_push, if_neg (by omega)] at hz'
          rw [Array.getD_eq_getD_getElem?, hz', ← Array.getD_eq_getD_getElem?]
          exact h
theorem before_spec {ops : Array Oper} {i j : Nat} {o : Oper} (ho : ops[i]? = some o) (h : bound (Region.before ops) j i = true) : ∃ e ∈ o.after.toList, Region.binds .any e = true ∧ (e.on = j ∨ bound (Region.before ops) j e.on = true) := by
  have := (before_go ops.toList #[]).2 i o (by simpa using ho) j
  simp only [List.size_toArray, List.length_nil, Nat.zero_add] at this
  unfold bound Region.before at h ⊢
  rw [← Array.foldl_toList] at h ⊢
  exact this h

/-- all that an operation is bound to is listed, if those it is tied to are -/
theorem bound_listed {ops : Array Oper} {listed : Array Bool} (hb : ∀ i o, ops[i]? = some o → ∀ e ∈ o.after.toList, Region.binds .any e = true → e.on < i) (hc : ∀ i o, ops[i]? = some o → listed.getD i true = true → ∀ e ∈ o.after.toList, Region.binds .any e = true → listed.getD e.on false = true)
    (hsz : listed.size = ops.size) : ∀ (i : Nat) (o : Oper), ops[i]? = some o → (∀ e ∈ o.after.toList, Region.binds .any e = true → listed.getD e.on false = true) → ∀ j, bound (Region.before ops) j i = true → listed.getD j false = true := by
  intro i
  induction i using Nat.strongRecOn with
  | _ i ih =>
    intro o ho hr j hj
    obtain ⟨e, he, hbe, h⟩ := before_spec ho hj
    have hl := hr e he hbe
    rcases h with rfl | h
    · exact hl
    · have hlt := hb i o ho e he hbe
      have hi := (Array.getElem?_eq_some_iff.1 ho).1
      obtain ⟨o', ho'⟩ : ∃ o', ops[e.on]? = some o' := ⟨ops[e.on], Array.getElem?_eq_getElem (by omega)⟩
      refine ih e.on hlt o' ho' (hc e.on o' ho' ?_) j h
      have hes : e.on < listed.size := by rw [hsz]; omega
      simpa [Array.getD_eq_getD_getElem?, hes] using hl

/-! ### the check of a region -/
/-- static: ties lead back; what is not bound has slots of its own -/
def sepB (ops : Array Oper) : Bool :=
  let bf := Region.before ops
  (List.range ops.size).all fun j => match ops[j]? with
    | none => true
    | some oj => oj.after.toList.all (fun e => !(Region.binds .any e) || Nat.blt e.on j) && (List.range j).all fun i => match ops[i]? with
      | none => true
      | some oi => bound bf i j || Oper.apart ops oi oj
theorem sepB_spec {ops : Array Oper} (h : sepB ops = true) : (∀ i o, ops[i]? = some o → ∀ e ∈ o.after.toList, Region.binds .any e = true → e.on < i) ∧
    (∀ i j oi oj, i < j → ops[i]? = some oi → ops[j]? = some oj → bound (Region.before ops) i j = true ∨ Oper.apart ops oi oj = true) := by
  simp only [sepB, List.all_eq_true, List.mem_range] at h
  refine ⟨fun i o ho e he hb => ?_, fun i j oi oj hij hi hj => ?_⟩
  · have h1 := h i (Array.getElem?_eq_some_iff.1 ho).1
    simp only [ho, Bool.and_eq_true, List.all_eq_true, Bool.or_eq_true, Bool.not_eq_true'] at h1
    rcases h1.1 e he with h2 | h2
    · rw [hb] at h2; cases h2
    · exact Nat.le_of_ble_eq_true h2
  · have h1 := h j (Array.getElem?_eq_some_iff.1 hj).1
    simp only [hj, Bool.and_eq_true, List.all_eq_true, List.mem_range] at h1
    have h2 := h1.2 i hij
    simp only [hi, Bool.or_eq_true] at h2
    exact h2

abbrev Item := Nat × Oper × Inf
/-- two steps, the first ahead of the second in the text -/
def PairOK (opsA : Array Oper) (x y : Item) : Prop := x.1 < y.1 ∧ (bound (Region.before opsA) x.1 y.1 = true ∨ (Oper.apart opsA x.2.1 y.2.1 = true ∧ Ind x.2.2 y.2.2))

theorem lmem_false {n : Nat} {l : List Nat} (h : lmem n l = false) : n ∉ l := fun hm => by rw [(lmem_iff n l).2 hm] at h; cases h
theorem disj_spec : ∀ {l m : List Nat}, disj l m = true → ∀ i ∈ l, i ∉ m
  | [], m, _, i, hi => by cases hi
  | a :: l, m, h, i, hi => by
    simp only [disj] at h
    cases hm : lmem a m
    · simp only [hm, cond_false] at h
      rcases List.mem_cons.1 hi with rfl | hi
      · exact lmem_false hm
      · exact disj_spec h i hi
    · simp [hm] at h
theorem disjT_spec : ∀ {l m : List Tok}, disjT l m = true → ∀ i ∈ l, i ∉ m
  | [], m, _, i, hi => by cases hi
  | a :: l, m, h, i, hi => by
    simp only [disjT] at h
    cases hm : m.any fun b => decide (b = a)
    · simp only [hm, cond_false] at h
      rcases List.mem_cons.1 hi with rfl | hi
      · intro hm'
        have := List.any_eq_false.1 hm i hm'
        simp at this
      · exact disjT_spec h i hi
    · simp [hm] at h
theorem indep_spec {t u : Tr} (h : indep t u = true) : (∀ i ∈ t.wrs, i ∉ u.rds) ∧ (∀ i ∈ t.wrs, i ∉ u.wrs) ∧ (∀ i ∈ u.wrs, i ∉ t.rds) ∧ (∀ k ∈ t.tks, k ∉ u.tks) := by
  simp only [indep, Bool.and_eq_true] at h
  exact ⟨disj_spec h.1.1.1, disj_spec h.1.1.2, disj_spec h.1.2, disjT_spec h.2⟩
theorem quiet_spec {t : Tr} (h : quiet t = true) : t.wrs = [] ∧ t.tks = [] := by
  unfold quiet at h
  split at h
  · rename_i h1 h2; exact ⟨h1, h2⟩
  · cases h
theorem trOf1_mem {j : Nat} {x : Inf} {t : Tr} (h : t ∈ trOf1 j x) : t.ix = j ∧ t.wrs = x.wrs ∧ t.rds = x.rds ∧ t.tks = x.tks := by
  cases x with
  | skip => cases h
  | did v up vers rds tks =>
    simp only [trOf1, List.mem_singleton] at h
    subst h
    exact ⟨rfl, rfl, rfl, rfl⟩
theorem inf_cases (j : Nat) (x : Inf) : (x = .skip) ∨ ∃ t, t ∈ trOf1 j x := by
  cases x with
  | skip => exact .inl rfl
  | did v up vers rds tks => exact .inr ⟨_, List.mem_singleton.2 rfl⟩
theorem trOf_mem {x : Item} {t : Tr} (ht : t ∈ trOf1 x.1 x.2.2) {items : List Item} (hx : x ∈ items) : t ∈ trOf items := by
  induction items with
  | nil => cases hx
  | cons y l ih =>
    obtain ⟨j, o, i⟩ := y
    simp only [trOf, List.mem_append]
    rcases List.mem_cons.1 hx with h | h
    · right; rw [h] at ht; exact ht
    · exact .inl (ih h)

/-- what the check of an order says of two entries, the later first -/
def TrOK (bf : Array Nat) (t u : Tr) : Prop := (quiet t = true ∧ quiet u = true) ∨ bound bf u.ix t.ix = true ∨ indep t u = true
theorem indepAll_spec {bf : Array Nat} {t : Tr} : ∀ {l : List Tr}, indepAll bf t l = true → ∀ u ∈ l, TrOK bf t u
  | [], _, u, hu => by cases hu
  | x :: l, h, u, hu => by
    simp only [indepAll] at h
    cases hc : ((quiet t && quiet x) || bound bf x.ix t.ix || indep t x)
    · simp [hc] at h
    · simp only [hc, cond_true] at h
      rcases List.mem_cons.1 hu with rfl | hu
      · simp only [Bool.or_eq_true, Bool.and_eq_true] at hc
        rcases hc with (hc | hc) | hc
        · exact .inl hc
        · exact .inr (.inl hc)
        · exact .inr (.inr hc)
      · exact indepAll_spec h u hu
theorem orderOk_pairs {bf : Array Nat} : ∀ {l : List Tr}, (quiets l || orderOk bf l) = true → l.Pairwise (TrOK bf)
  | [], _ => .nil
  | t :: l, h => by
    simp only [Bool.or_eq_true] at h
    rcases h with h | h
    · have hq : ∀ {l : List Tr}, quiets l = true → ∀ u ∈ l, quiet u = true := by
        intro l
        induction l with
        | nil => intro _ u hu; cases hu
        | cons x l ih =>
          intro h u hu
          simp only [quiets] at h
          cases hx : quiet x
          · simp [hx] at h
          · simp only [hx, cond_true] at h
            rcases List.mem_cons.1 hu with rfl | hu
            · exact hx
            · exact ih h u hu
      have hall := hq h
      have ht := hall t List.mem_cons_self
      refine List.pairwise_cons.2 ⟨fun u hu => .inl ⟨ht, hall u (List.mem_cons_of_mem _ hu)⟩, orderOk_pairs ?_⟩
      simp only [quiets, ht, cond_true] at h
      simp [h]
    · simp only [orderOk] at h
      cases hc : indepAll bf t l
      · simp [hc] at h
      · simp only [hc, cond_true] at h
        exact List.pairwise_cons.2 ⟨indepAll_spec hc, orderOk_pairs (by simp [h])⟩

theorem ind_of {bf : Array Nat} {x y : Inf} {i j : Nat} (h : ∀ t ∈ trOf1 j y, ∀ u ∈ trOf1 i x, TrOK bf t u) : bound bf i j = true ∨ Ind x y := by
  rcases inf_cases i x with rfl | ⟨u, hu⟩
  · exact .inr ⟨fun _ h => (by cases h), fun _ h => (by cases h), fun _ _ h => (by cases h), fun _ h => (by cases h)⟩
  · rcases inf_cases j y with rfl | ⟨t, ht⟩
    · exact .inr ⟨fun _ _ h => (by cases h), fun _ _ h => (by cases h), fun _ h => (by cases h), fun _ _ h => (by cases h)⟩
    · obtain ⟨u1, u2, u3, u4⟩ := trOf1_mem hu
      obtain ⟨t1, t2, t3, t4⟩ := trOf1_mem ht
      rcases h t ht u hu with h | h | h
      · obtain ⟨q1, q2⟩ := quiet_spec h.1
        obtain ⟨q3, q4⟩ := quiet_spec h.2
        rw [t2] at q1; rw [t4] at q2; rw [u2] at q3; rw [u4] at q4
        exact .inr ⟨fun k hk => by (rw [q3] at hk; cases hk), fun k hk => by (rw [q3] at hk; cases hk), fun k hk => by (rw [q1] at hk; cases hk), fun k hk => by (rw [q4] at hk; cases hk)⟩
      · left; rw [← u1, ← t1]; exact h
      · obtain ⟨q1, q2, q3, q4⟩ := indep_spec h
        rw [t2, u3] at q1
        rw [t2, u2] at q2
        rw [u2, t3] at q3
        rw [t4, u4] at q4
        exact .inr ⟨q3, fun k hk hk' => q2 k hk' hk, q1, fun k hk hk' => q4 k hk' hk⟩

theorem numbered_lt : ∀ {items : List Item} {l : List Oper} {j : Nat}, items.map (fun x => (x.1, x.2.1)) = numbered j l → ∀ x ∈ items, j ≤ x.1 ∧ l[x.1 - j]? = some x.2.1 ∧ x.1 < j + l.length
  | [], l, j, h, x, hx => by cases hx
  | (i, o, y) :: items, [], j, h, x, hx => by simp [numbered] at h
  | (i, o, y) :: items, o' :: l, j, h, x, hx => by
    simp only [List.map_cons, numbered, List.cons.injEq, Prod.mk.injEq] at h
    obtain ⟨⟨rfl, rfl⟩, h⟩ := h
    rcases List.mem_cons.1 hx with rfl | hx
    · simp
    · obtain ⟨h1, h2, h3⟩ := numbered_lt h x hx
      refine ⟨by omega, ?_, by simp; omega⟩
      rw [show x.1 - i = (x.1 - (i + 1)) + 1 from by omega]
      simpa using h2
theorem numbered_all : ∀ {items : List Item} {l : List Oper} {j : Nat}, items.map (fun x => (x.1, x.2.1)) = numbered j l → ∀ k, k < l.length → ∃ x ∈ items, x.1 = j + k
  | items, [], j, h, k, hk => by simp at hk
  | [], o' :: l, j, h, k, hk => by simp [numbered] at h
  | (i, o, y) :: items, o' :: l, j, h, k, hk => by
    simp only [List.map_cons, numbered, List.cons.injEq, Prod.mk.injEq] at h
    obtain ⟨⟨rfl, rfl⟩, h⟩ := h
    cases k with
    | zero => exact ⟨_, List.mem_cons_self, rfl⟩
    | succ k =>
      obtain ⟨x, hx, he⟩ := numbered_all h k (by simpa using hk)
      exact ⟨x, List.mem_cons_of_mem _ hx, by omega⟩

theorem pairs_of {opsA : Array Oper} (hs : sepB opsA = true) : ∀ {items : List Item} {l : List Oper} {j : Nat}, items.map (fun x => (x.1, x.2.1)) = numbered j l → (∀ x ∈ items, opsA[x.1]? = some x.2.1) → (trOf items).Pairwise (TrOK (Region.before opsA)) → items.Pairwise (PairOK opsA)
  | [], l, j, _, _, _ => .nil
  | (i, o, y) :: items, [], j, h, _, _ => by simp [numbered] at h
  | (i, o, y) :: items, o' :: l, j, h, ho, ht => by
    simp only [List.map_cons, numbered, List.cons.injEq, Prod.mk.injEq] at h
    obtain ⟨⟨rfl, rfl⟩, h⟩ := h
    simp only [trOf, List.pairwise_append] at ht
    refine List.pairwise_cons.2 ⟨fun x hx => ?_, pairs_of hs h (fun x hx => ho x (List.mem_cons_of_mem _ hx)) ht.1⟩
    have hlt : i < x.1 := by have := (numbered_lt h x hx).1; omega
    refine ⟨hlt, ?_⟩
    rcases (sepB_spec hs).2 i x.1 _ _ hlt (ho (i, o, y) List.mem_cons_self) (ho x (List.mem_cons_of_mem _ hx)) with hb | ha
    · exact .inl hb
    · rcases ind_of (bf := Region.before opsA) (x := y) (y := x.2.2) (i := i) (j := x.1) (fun t ht1 u hu => ht.2.2 t (trOf_mem ht1 hx) u hu) with hb | hi
      · exact .inl hb
      · exact .inr ⟨ha, hi⟩
end Go.AI

/-
  REGIONS (6): the region. Nothing here is about one program.
-/
set_option linter.unusedVariables false
set_option linter.unusedSimpArgs false
namespace Go.AI

section
variable {P : Program} {glob : Nat → Option AV} {S : Start} {opsA : Array Oper} {ops : List Oper} {B : Nat}

theorem ready_spec {listed : Array Bool} {i : Nat} (h : i ∈ Region.ready .any opsA listed) : i < opsA.size ∧ listed.getD i true = false ∧ ∃ o, opsA[i]? = some o ∧ ∀ e ∈ o.after.toList, Region.binds .any e = true → listed.getD e.on false = true := by
  simp only [Region.ready, List.mem_filter, List.mem_range, Bool.and_eq_true, Bool.not_eq_true'] at h
  obtain ⟨h1, h2, h3⟩ := h
  refine ⟨h1, h2, opsA[i], Array.getElem?_eq_getElem h1, fun e he hb => ?_⟩
  simp only [Array.getElem?_eq_getElem h1, Option.map_some, Option.getD_some, Array.all_eq_true_iff_forall_mem] at h3
  have := h3 e (by simpa using he)
  rw [hb] at this
  simpa using this
theorem ready_of {listed : Array Bool} {i : Nat} {o : Oper} (h1 : i < opsA.size) (h2 : listed.getD i true = false) (ho : opsA[i]? = some o) (h3 : ∀ e ∈ o.after.toList, Region.binds .any e = true → listed.getD e.on false = true) : i ∈ Region.ready .any opsA listed := by
  simp only [Region.ready, List.mem_filter, List.mem_range, Bool.and_eq_true, Bool.not_eq_true']
  refine ⟨h1, h2, ?_⟩
  simp only [ho, Option.map_some, Option.getD_some, Array.all_eq_true_iff_forall_mem]
  intro e he
  cases hb : Region.binds .any e with
  | false => rfl
  | true => simp [h3 e (by simpa using he) hb]

/-- what stands while a region goes on -/
structure Going (opsA : Array Oper) (listed : Array Bool) : Prop where
  size : listed.size = opsA.size
  closed : ∀ i o, opsA[i]? = some o → listed.getD i true = true → ∀ e ∈ o.after.toList, Region.binds .any e = true → listed.getD e.on false = true
theorem set_getD {listed : Array Bool} {i k : Nat} {d : Bool} (hk : k < listed.size) : (listed.setIfInBounds i true).getD k d = if i = k then true else listed.getD k d := by
  by_cases h : i = k
  · subst h; simp [Array.getD_eq_getD_getElem?, hk]
  · simp [Array.getD_eq_getD_getElem?, Array.getElem?_setIfInBounds_ne h, h]
theorem set_getD_ge {listed : Array Bool} {i k : Nat} {d : Bool} (hk : ¬ k < listed.size) : (listed.setIfInBounds i true).getD k d = d := by
  simp [Array.getD_eq_getD_getElem?, hk]
theorem Going.next {listed : Array Bool} (h : Going opsA listed) {i : Nat} (hi : i ∈ Region.ready .any opsA listed) : Going opsA (listed.setIfInBounds i true) := by
  obtain ⟨h1, h2, o, ho, h3⟩ := ready_spec hi
  have mono : ∀ {k : Nat}, listed.getD k false = true → (listed.setIfInBounds i true).getD k false = true := by
    intro k hk
    by_cases hlt : k < listed.size
    · rw [set_getD hlt]
      by_cases he : i = k
      · rw [if_pos he]
      · rw [if_neg he]; exact hk
    · rw [Array.getD_eq_getD_getElem?, Array.getElem?_eq_none (Nat.le_of_not_lt hlt)] at hk; cases hk
  refine ⟨by simp [h.size], fun k o' ho' hk e he hb => mono ?_⟩
  by_cases hki : i = k
  · subst hki
    rw [ho] at ho'; cases ho'
    exact h3 e he hb
  · have hlt : k < listed.size := by rw [h.size]; exact (Array.getElem?_eq_some_iff.1 ho').1
    rw [set_getD hlt, if_neg hki] at hk
    exact h.closed k o' ho' hk e he hb

theorem pairwise_split {x : Item} {pre post : List Item} (h : (pre ++ x :: post).Pairwise (PairOK opsA)) : (pre ++ post).Pairwise (PairOK opsA) ∧ ∀ y ∈ pre, PairOK opsA y x := by
  rw [List.pairwise_append] at h
  obtain ⟨h1, h2, h3⟩ := h
  rw [List.pairwise_cons] at h2
  exact ⟨List.pairwise_append.2 ⟨h1, h2.2, fun a ha b hb => h3 a ha b (List.mem_cons_of_mem _ hb)⟩, fun y hy => h3 y hy x List.mem_cons_self⟩
theorem pairwise_ne {x : Item} {pre post : List Item} (h : (pre ++ x :: post).Pairwise (PairOK opsA)) : ∀ y ∈ pre ++ post, y.1 ≠ x.1 := by
  rw [List.pairwise_append] at h
  obtain ⟨h1, h2, h3⟩ := h
  rw [List.pairwise_cons] at h2
  intro y hy
  rcases List.mem_append.1 hy with hy | hy
  · have := (h3 y hy x List.mem_cons_self).1; omega
  · have := (h2.1 y hy).1; omega

/-- the next step of some order: it may be made first -/
theorem next_step (hops : opsA.toList = ops) (hs : sepB opsA = true) {items : List Item} {s C : St} {listed : Array Bool} (hrun : ARun P glob ops B items s C) (hp : items.Pairwise (PairOK opsA)) (ho : ∀ x ∈ items, opsA[x.1]? = some x.2.1)
    (hl : ∀ x ∈ items, listed.getD x.1 true = false) (hg : Going opsA listed) {i : Nat} (hi : i ∈ Region.ready .any opsA listed) (hx : ∃ x ∈ items, x.1 = i) :
    ∃ o y s1 rest, opsA[i]? = some o ∧ AStep P glob ops B i o y s s1 ∧ ARun P glob ops B rest s1 C ∧ rest.Pairwise (PairOK opsA) ∧ (∀ z, z ∈ rest ↔ z ∈ items ∧ z.1 ≠ i) ∧ rest.length + 1 = items.length := by
  obtain ⟨x, hx, rfl⟩ := hx
  obtain ⟨pre, post, rfl⟩ := List.append_of_mem hx
  obtain ⟨j, o, y⟩ := x
  obtain ⟨r1, r2, o', ho', r3⟩ := ready_spec hi
  obtain ⟨p1, p2⟩ := pairwise_split hp
  have hne := pairwise_ne hp
  have hb := bound_listed (sepB_spec hs).1 hg.closed hg.size j o' ho' r3
  obtain ⟨s1, h1, h2⟩ := bubble hops hrun fun z hz => by
    rcases (p2 z hz).2 with h | h
    · have := hb z.1 h
      have hz' := hl z (by simp [hz])
      have hlt : z.1 < listed.size := by
        rw [hg.size]; exact (Array.getElem?_eq_some_iff.1 (ho z (by simp [hz]))).1
      rw [Array.getD_eq_getD_getElem?, Array.getElem?_eq_getElem hlt] at this hz'
      simp only [Option.getD_some] at this hz'
      rw [this] at hz'; cases hz'
    · exact h
  refine ⟨o, y, s1, pre ++ post, ho (j, o, y) hx, h1, h2, p1, fun z => ?_, by simp; omega⟩
  constructor
  · intro hz
    refine ⟨?_, hne z hz⟩
    rcases List.mem_append.1 hz with h | h
    · exact List.mem_append_left _ h
    · exact List.mem_append_right _ (List.mem_cons_of_mem _ h)
  · rintro ⟨hz, hzj⟩
    rcases List.mem_append.1 hz with h | h
    · exact List.mem_append_left _ h
    · rcases List.mem_cons.1 h with rfl | h
      · exact absurd rfl hzj
      · exact List.mem_append_right _ h

theorem any_ok (hg : GlobR P S glob) (hops : opsA.toList = ops) (hs : sepB opsA = true) {Q : Exit → Act → World → Prop} {d0 : List Deferred} {C : St} {E0 : Env} {c0 : Cur}
    (hQ : ∀ a1 w1 E1 U1, WR P E1 S C.M C.cur U1 w1 → (∀ k, U1 k → k < B + opsA.size) → Later E0 c0 E1 C.cur → SlR P E1 C.cur C.sl a1.tmps → a1.defers = d0 → Q .normal a1 w1) :
    ∀ (fuel : Nat) {items : List Item} {listed : Array Bool} {s : St} {E : Env} {a : Act} {w : World} {U : Nat → Prop}, items.length = fuel → ARun P glob ops B items s C → items.Pairwise (PairOK opsA) → (∀ x ∈ items, opsA[x.1]? = some x.2.1) → Going opsA listed →
      (∀ i, i < opsA.size → (listed.getD i true = false ↔ ∃ x ∈ items, x.1 = i)) → WR P E S s.M s.cur U w → (∀ x ∈ items, ¬ U (B + x.1)) → (∀ k, U k → k < B + opsA.size) → Later E0 c0 E s.cur → SlR P E s.cur s.sl a.tmps → a.defers = d0 →
      wpAny P .any opsA Q fuel listed a w
  | 0, items, listed, s, E, a, w, U, hlen, hrun, hp, ho, hgo, hl, hw, hU, hUB, hL, hsl, hd => by
    have : items = [] := List.eq_nil_of_length_eq_zero hlen
    subst this
    cases hrun
    refine ⟨?_, hQ a w E U hw hUB hL hsl hd⟩
    refine List.eq_nil_iff_forall_not_mem.2 fun i hi => ?_
    obtain ⟨r1, r2, _⟩ := ready_spec hi
    obtain ⟨x, hx, _⟩ := (hl i r1).1 r2
    cases hx
  | fuel + 1, items, listed, s, E, a, w, U, hlen, hrun, hp, ho, hgo, hl, hw, hU, hUB, hL, hsl, hd => by
    refine ⟨fun hnil => ?_, fun i hi => ?_⟩
    · -- the first of the text is ready
      exfalso
      cases items with
      | nil => simp at hlen
      | cons x items =>
        have hx := ho x List.mem_cons_self
        have hlt := (Array.getElem?_eq_some_iff.1 hx).1
        have : x.1 ∈ Region.ready .any opsA listed := ready_of hlt ((hl x.1 hlt).2 ⟨x, List.mem_cons_self, rfl⟩) hx fun e he hb => by
          have he' := (sepB_spec hs).1 x.1 _ hx e he hb
          cases hv : listed.getD e.on true with
          | true =>
            have : e.on < listed.size := by rw [hgo.size]; omega
            simpa [Array.getD_eq_getD_getElem?, this] using hv
          | false =>
            obtain ⟨y, hy, hye⟩ := (hl e.on (by omega)).1 hv
            rcases List.mem_cons.1 hy with rfl | hy
            · omega
            · have := ((List.pairwise_cons.1 hp).1 y hy).1; omega
        rw [hnil] at this; cases this
    · obtain ⟨r1, r2, _⟩ := ready_spec hi
      obtain ⟨o, y, s1, rest, h1, h2, h3, h4, h5, h6⟩ := next_step hops hs hrun hp ho (fun x hx => (hl x.1 (Array.getElem?_eq_some_iff.1 (ho x hx)).1).2 ⟨x, hx, rfl⟩) hgo hi ((hl i r1).1 r2)
      obtain ⟨x0, hx0, e0⟩ := (hl i r1).1 r2
      refine step_ok hw (by rw [← e0]; exact hU x0 hx0) hg hsl hops h1 h2 fun a1 w1 E1 hW hL1 hs1 hd1 => ?_
      refine any_ok hg hops hs hQ fuel (by omega) h3 h4 (fun z hz => ho z ((h5 z).1 hz).1) (hgo.next hi) (fun k hk => ?_) hW (fun z hz hUz => ?_) (fun k hk => ?_) (hL.trans hL1) hs1 (hd1.trans hd)
      · rw [set_getD (by rw [hgo.size]; exact hk)]
        by_cases hik : i = k
        · subst hik
          simp only [if_pos, Bool.true_eq_false, false_iff]
          rintro ⟨z, hz, he⟩
          exact ((h5 z).1 hz).2 he
        · rw [if_neg hik, hl k hk]
          constructor
          · rintro ⟨z, hz, he⟩; exact ⟨z, (h5 z).2 ⟨hz, fun e => hik (e.symm.trans he)⟩, he⟩
          · rintro ⟨z, hz, he⟩; exact ⟨z, ((h5 z).1 hz).1, he⟩
      · rcases hUz with h | h
        · exact hU z ((h5 z).1 hz).1 h
        · exact ((h5 z).1 hz).2 (by omega)
      · rcases hk with h | h
        · exact hUB k h
        · omega

theorem any_pan (hg : GlobR P S glob) (hops : opsA.toList = ops) (hs : sepB opsA = true) {Q : Exit → Act → World → Prop} {d0 : List Deferred} {C : St} {E0 : Env} {c0 : Cur}
    {jp : Nat} {op : Oper} {v : AV} {up : List (Nat × AObj)} {vers : List (Tok × Nat)} {rds : List Nat} {tks : List Tok} (hjp : opsA[jp]? = some op) (hpan : APan P glob ops B jp op v up vers rds tks C) (hbehind : ∀ i, jp < i → i < opsA.size → bound (Region.before opsA) jp i = true)
    (hQ : ∀ v1 a1 w1 E1 U1, WR P E1 S (upd C.M up) (raise C.cur vers) U1 w1 → (∀ k, U1 k → k < B + opsA.size) → Later E0 c0 E1 (raise C.cur vers) → CR P E1.H v v1 → a1.defers = d0 → Q (.panic [{ v := v1, recovered := false }]) a1 w1) :
    ∀ (fuel : Nat) {items : List Item} {listed : Array Bool} {s : St} {E : Env} {a : Act} {w : World} {U : Nat → Prop}, items.length < fuel → ARun P glob ops B items s C → items.Pairwise (PairOK opsA) → (∀ x ∈ items, opsA[x.1]? = some x.2.1 ∧ x.1 < jp) →
      (∀ x ∈ items, bound (Region.before opsA) x.1 jp = true ∨ (x.2.2.wrs = [] ∧ x.2.2.tks = [])) → Going opsA listed →
      (∀ i, i < opsA.size → (listed.getD i true = false ↔ ((∃ x ∈ items, x.1 = i) ∨ jp ≤ i))) → WR P E S s.M s.cur U w → (∀ x ∈ items, ¬ U (B + x.1)) → ¬ U (B + jp) → (∀ k, U k → k < B + opsA.size) → Later E0 c0 E s.cur → SlR P E s.cur s.sl a.tmps → a.defers = d0 →
      wpAny P .any opsA Q fuel listed a w
  | 0, items, listed, s, E, a, w, U, hlen, _, _, _, _, _, _, _, _, _, _, _, _, _ => by omega
  | fuel + 1, items, listed, s, E, a, w, U, hlen, hrun, hp, ho, hq, hgo, hl, hw, hU, hUj, hUB, hL, hsl, hd => by
    have hjlt := (Array.getElem?_eq_some_iff.1 hjp).1
    have unl : ∀ x ∈ items, listed.getD x.1 true = false := fun x hx => (hl x.1 (Array.getElem?_eq_some_iff.1 (ho x hx).1).1).2 (.inl ⟨x, hx, rfl⟩)
    have notboth : ∀ {k : Nat}, k < opsA.size → listed.getD k false = true → listed.getD k true = false → False := by
      intro k hk h1 h2
      have : k < listed.size := by rw [hgo.size]; exact hk
      rw [Array.getD_eq_getD_getElem?, Array.getElem?_eq_getElem this] at h1 h2
      simp only [Option.getD_some] at h1 h2
      rw [h1] at h2; cases h2
    refine ⟨fun hnil => ?_, fun i hi => ?_⟩
    · exfalso
      obtain ⟨z, oz, hz1, hz2, hz3, hz4⟩ : ∃ z oz, opsA[z]? = some oz ∧ listed.getD z true = false ∧ z ≤ jp ∧ ∀ y ∈ items, z ≤ y.1 := by
        cases items with
        | nil => exact ⟨jp, op, hjp, (hl jp hjlt).2 (.inr (Nat.le_refl _)), Nat.le_refl _, fun y hy => by cases hy⟩
        | cons x items =>
          refine ⟨x.1, x.2.1, (ho x List.mem_cons_self).1, unl x List.mem_cons_self, Nat.le_of_lt (ho x List.mem_cons_self).2, fun y hy => ?_⟩
          rcases List.mem_cons.1 hy with rfl | hy
          · exact Nat.le_refl _
          · exact Nat.le_of_lt ((List.pairwise_cons.1 hp).1 y hy).1
      have hzlt := (Array.getElem?_eq_some_iff.1 hz1).1
      have : z ∈ Region.ready .any opsA listed := ready_of hzlt hz2 hz1 fun e he hb => by
        have he' := (sepB_spec hs).1 z _ hz1 e he hb
        cases hv : listed.getD e.on true with
        | true =>
          have : e.on < listed.size := by rw [hgo.size]; omega
          simpa [Array.getD_eq_getD_getElem?, this] using hv
        | false =>
          rcases (hl e.on (by omega)).1 hv with ⟨y, hy, hye⟩ | h
          · have := hz4 y hy; omega
          · omega
      rw [hnil] at this; cases this
    · obtain ⟨r1, r2, o', ho', r3⟩ := ready_spec hi
      have hb := bound_listed (sepB_spec hs).1 hgo.closed hgo.size i o' ho' r3
      by_cases hij : jp < i
      · have := hb jp (hbehind i hij r1)
        exact (notboth hjlt this ((hl jp hjlt).2 (.inr (Nat.le_refl _)))).elim
      · by_cases hie : i = jp
        · subst hie
          -- the panic
          have hfirst := pan_first hops hrun hpan fun x hx => by
            have hx1 := (ho x hx).1
            have hxlt := (Array.getElem?_eq_some_iff.1 hx1).1
            have hnb : ¬ bound (Region.before opsA) x.1 i = true := fun h => notboth hxlt (hb x.1 h) (unl x hx)
            refine ⟨?_, (hq x hx).resolve_left hnb⟩
            exact ((sepB_spec hs).2 x.1 i _ _ (ho x hx).2 hx1 hjp).resolve_left hnb
          obtain ⟨e1, e2, hp'⟩ := hfirst
          refine pan_ok hw hUj hg hsl hops hjp hp' fun v1 w1 E1 hW hL1 hc => ?_
          rw [← e1, ← e2] at hW
          rw [← e2] at hL1
          refine hQ v1 a w1 E1 _ hW (fun k hk => ?_) ((e2 ▸ hL).trans hL1) hc hd
          rcases hk with h | h
          · exact hUB k h
          · omega
        · obtain ⟨o, y, s1, rest, h1, h2, h3, h4, h5, h6⟩ := next_step hops hs hrun hp (fun x hx => (ho x hx).1) unl hgo hi (((hl i r1).1 r2).resolve_right (by omega))
          obtain ⟨x0, hx0, e0⟩ := ((hl i r1).1 r2).resolve_right (by omega)
          refine step_ok hw (by rw [← e0]; exact hU x0 hx0) hg hsl hops h1 h2 fun a1 w1 E1 hW hL1 hs1 hd1 => ?_
          refine any_pan hg hops hs hjp hpan hbehind hQ fuel (by omega) h3 h4 (fun z hz => ho z ((h5 z).1 hz).1) (fun z hz => hq z ((h5 z).1 hz).1) (hgo.next hi) (fun k hk => ?_) hW (fun z hz hUz => ?_) (fun h => ?_) (fun k hk => ?_) (hL.trans hL1) hs1 (hd1.trans hd)
          · rw [set_getD (by rw [hgo.size]; exact hk)]
            by_cases hik : i = k
            · subst hik
              simp only [if_pos, Bool.true_eq_false, false_iff]
              rintro (⟨z, hz, he⟩ | h)
              · exact ((h5 z).1 hz).2 he
              · omega
            · rw [if_neg hik, hl k hk]
              constructor
              · rintro (⟨z, hz, he⟩ | h)
                · exact .inl ⟨z, (h5 z).2 ⟨hz, fun e => hik (e.symm.trans he)⟩, he⟩
                · exact .inr h
              · rintro (⟨z, hz, he⟩ | h)
                · exact .inl ⟨z, ((h5 z).1 hz).1, he⟩
                · exact .inr h
          · rcases hUz with h | h
            · exact hU z ((h5 z).1 hz).1 h
            · exact ((h5 z).1 hz).2 (by omega)
          · rcases h with h | h
            · exact hUj h
            · omega
          · rcases hk with h | h
            · exact hUB k h
            · omega
end
end Go.AI

/-
  CODE (1): what is known at a place, regions. Nothing here is about one program.
-/
set_option linter.unusedVariables false
set_option linter.unusedSimpArgs false
namespace Go.AI

/-- the boxes that a function was handed -/
structure Frm where
  S : Start
  n0 : Nat
  β0 : Nat → Option Nat

/-- what is put off -/
def DefR (P : Program) (E : Env) (cur : Cur) (d : FuncId × List AV) (x : Deferred) : Prop :=
  ∃ vs cap : List Value, x = { target := .fn (.func d.1) cap.toArray, args := vs.toArray } ∧ All2 (ValR P E cur) d.2 (vs ++ cap) ∧ noTks d.2 = true
theorem DefR.later {P : Program} {E E' : Env} {cur cur' : Cur} (h : Later E cur E' cur') {d : FuncId × List AV} {x : Deferred} (hd : DefR P E cur d x) : DefR P E' cur' d x := by
  obtain ⟨vs, cap, h1, h2, h3⟩ := hd
  exact ⟨vs, cap, h1, h2.mono fun _ _ x => ValR.later h x, h3⟩

/-- slots, as far as they are known -/
def SlW (P : Program) (E : Env) (cur : Cur) (sl : List AV) (tmps : Array Value) : Prop := ∀ t, TupR P E cur (lget sl t .unk) (tmps.getD t undef)
theorem SlR.weak {P : Program} {E : Env} {cur : Cur} {sl : List AV} {tmps : Array Value} (h : SlR P E cur sl tmps) : SlW P E cur sl tmps := by
  intro t
  have h1 := h.get t
  rcases Nat.lt_or_ge t sl.length with hl | hl
  · have : lget sl t .undef = lget sl t .unk := by rw [lget_eq, lget_eq, List.getD, List.getD, List.getElem?_eq_getElem hl]; rfl
    rw [← this]; exact h1
  · rw [lget_eq, List.getD, List.getElem?_eq_none hl]; exact tupR_of_cell (by trivial)
theorem SlW.nil {P : Program} {E : Env} {cur : Cur} {tmps : Array Value} : SlW P E cur [] tmps := fun t => by
  cases t <;> exact tupR_of_cell (by trivial)

/-- the interpreter's state and the model's, at a place of the code -/
def At (P : Program) (F : Frm) (sl : List AV) (M : Mem) (cur : Cur) (nx : Nat) (ds : Defs) (a : Act) (w : World) : Prop :=
  ∃ E, WR P E F.S M cur (fun k => k < nx) w ∧ SlR P E cur sl a.tmps ∧ F.n0 ≤ nx ∧ (∀ j, j < F.n0 → ∀ b, F.β0 j = some b → E.β j = some b) ∧ All2 (DefR P E cur) ds a.defers
theorem At.more {P : Program} {F : Frm} {sl : List AV} {M : Mem} {cur : Cur} {nx m : Nat} {ds : Defs} {a : Act} {w : World} (h : At P F sl M cur nx ds a w) : At P F sl M cur (Nat.max nx m) ds a w := by
  obtain ⟨E, h1, h2, h3, h4, h5⟩ := h
  have : nx ≤ Nat.max nx m := Nat.le_max_left nx m
  exact ⟨E, h1.more fun k hk => Nat.lt_of_lt_of_le hk this, h2, Nat.le_trans h3 this, h4, h5⟩

/-- what the continuation wants -/
def KQ (P : Program) (F : Frm) (k : Kont) (R : Res) : Exit → Act → World → Prop
  | .normal, a, w => ∃ sl M cur nx ds, k .normal sl M cur nx ds = some R ∧ At P F sl M cur nx ds a w
  | .exit id, a, w => ∃ sl M cur nx ds, k (.exit id) sl M cur nx ds = some R ∧ At P F sl M cur nx ds a w
  | .ret, a, w => ∃ sl M cur nx ds, k .ret sl M cur nx ds = some R ∧ At P F sl M cur nx ds a w
  | .panic ch, a, w => ∃ sl M cur nx ds v v1 E, k (.pan v) sl M cur nx ds = some R ∧ ch = [{ v := v1, recovered := false }] ∧ WR P E F.S M cur (fun k => k < nx) w ∧ F.n0 ≤ nx ∧ (∀ j, j < F.n0 → ∀ b, F.β0 j = some b → E.β j = some b) ∧ CR P E.H v v1 ∧ SlW P E cur sl a.tmps ∧ All2 (DefR P E cur) ds a.defers
  | _, _, _ => False

def drawsOk : Code → Bool
  | .region _ ops draw => !draw || sepB ops
  | .seq a b => drawsOk a && drawsOk b
  | .cond _ a b => drawsOk a && drawsOk b
  | .block _ c => drawsOk c
  | .loop c => drawsOk c
  | .scope c => drawsOk c
  | _ => true

section
variable {P : Program} {glob : Nat → Option AV} {ρ : FuncId → Fn} {F : Frm}

theorem prefix_get {opsA : Array Oper} {pre post : List Oper} (h : opsA.toList = pre ++ post) (k : Nat) : pre[k]? = opsA[0 + k]? ∨ pre.length ≤ k := by
  rcases Nat.lt_or_ge k pre.length with hk | hk
  · left
    rw [Nat.zero_add, ← Array.getElem?_toList, h, List.getElem?_append_left hk]
  · exact .inr hk

theorem region_ok (hρ : ∀ g, Sound P glob (ρ g) g) (hg : GlobR P F.S glob) (hm : P.follows .mixedOrders = true) {id : Nat} {opsA : Array Oper} {draw : Bool} (hdr : (!draw || sepB opsA) = true) {sl : List AV} {M : Mem} {cur : Cur} {nx : Nat} {ds : Defs} {k : Kont} {R : Res} {a : Act} {w : World}
    (h : runOps P glob ρ opsA.toList nx opsA.toList 0 sl M cur []
      (fun sl' M' cur' tr => cond (!draw || quiets tr || orderOk (Region.before opsA) tr) (k .normal sl' M' cur' (nx + opsA.size) ds) none)
      (fun v sl' M' cur' tr j => cond (!draw || (panOk (Region.before opsA) j tr opsA.size && (quiets tr || orderOk (Region.before opsA) tr))) (k (.pan v) (cond draw [] sl') M' cur' (nx + opsA.size) ds) none) = some R) (hat : At P F sl M cur nx ds a w) : (Code.region id opsA draw).wp P (KQ P F k R) a w := by
  obtain ⟨E, hw, hs, hn0, hkeep, hds⟩ := hat
  have hd : a.defers = a.defers := rfl
  have hsize : opsA.toList.length = opsA.size := by simp
  rcases runOps_spec hρ opsA.toList 0 sl M cur [] _ _ R h with ⟨items, C, h1, h2, h3⟩ | ⟨pre, o, post, items, C, v, up, vers, rds, tks, h0, h1, h2, h3, h4⟩
  · have hnorm : ∀ {E1 : Env} {a1 : Act} {w1 : World}, k .normal C.sl C.M C.cur (nx + opsA.size) ds = some R → WR P E1 F.S C.M C.cur (fun k => k < nx + opsA.size) w1 → Later E cur E1 C.cur → SlR P E1 C.cur C.sl a1.tmps → a1.defers = a.defers → KQ P F k R .normal a1 w1 := by
      intro E1 a1 w1 hk hW hL hs1 hd1
      exact ⟨_, _, _, _, _, hk, E1, hW, hs1, by omega, fun j hj b hb => hL.β j b (hkeep j hj b hb), by rw [hd1]; exact hds.mono fun _ _ => DefR.later hL⟩
    cases draw with
    | false =>
      simp only [Bool.not_false, Bool.true_or, cond_true] at h3
      refine wp_region ?_
      have := text_ok (P := P) (glob := glob) (S := F.S) (ops := opsA.toList) (B := nx) hg (opsA := opsA) rfl (Q := KQ P F k R) (K := KQ P F k R .normal) (d0 := a.defers) (C := C) (E0 := E) (items := items) (rest := opsA.toList) (j := 0) (s := ⟨sl, M, cur⟩) (E := E) (a := a) (w := w) h1
        (fun k => .inl (by simp)) h2 hw hs (Later.refl _ _) hd fun a1 w1 E1 hW hL hs1 hd1 => hnorm h3 (hW.more fun k hk => by omega) hL hs1 hd1
      have hf := foldr_wpOps (P := P) (opsA := opsA) (Q := KQ P F k R) (List.range' 0 opsA.toList.length) []
      rw [List.append_nil] at hf
      rw [List.range_eq_range', ← hsize, ← hf]
      exact this
    | true =>
      simp only [Bool.not_true, Bool.false_or] at h3 hdr
      cases hq : (quiets (trOf items ++ []) || orderOk (Region.before opsA) (trOf items ++ []))
      · rw [hq] at h3; simp at h3
      · rw [hq] at h3
        simp only [cond_true] at h3
        rw [List.append_nil] at hq
        have hitems : ∀ x ∈ items, opsA[x.1]? = some x.2.1 := fun x hx => by
          have := (numbered_lt h1 x hx).2.1
          simpa using this
        have hpairs := pairs_of hdr h1 hitems (orderOk_pairs hq)
        refine wp_region_any hm ?_
        have hlen : items.length = opsA.size := by
          have : ∀ (l : List Oper) (j : Nat), (numbered j l).length = l.length := by
            intro l
            induction l with
            | nil => intro j; rfl
            | cons x l ih => intro j; simp [numbered, ih]
          have h := congrArg List.length h1
          rw [this] at h
          simpa using h
        refine any_ok hg rfl hdr (d0 := a.defers) (E0 := E) (c0 := cur) (fun a1 w1 E1 U1 hW hU hL hs1 hd1 => hnorm h3 (hW.more hU) hL hs1 hd1) opsA.size (items := items) (s := ⟨sl, M, cur⟩) (E := E) (U := fun k => k < nx) hlen h2 hpairs hitems
          ⟨by simp, fun i o ho hl => ?_⟩ (fun i hi => ?_) (hw.drewN _) (fun x hx => by omega) (fun k hk => by omega) (Later.refl _ _) hs hd
        · have hi := (Array.getElem?_eq_some_iff.1 ho).1
          simp [Array.getD_eq_getD_getElem?, hi] at hl
        · have : (Array.replicate opsA.size false).getD i true = false := by simp [Array.getD_eq_getD_getElem?, hi]
          simp only [this, true_iff]
          obtain ⟨x, hx, he⟩ := numbered_all h1 i (by simpa using hi)
          exact ⟨x, hx, by omega⟩
  · have hjp : opsA[0 + pre.length]? = some o := by
      rw [Nat.zero_add, ← Array.getElem?_toList, h0]; simp
    have hplt := (Array.getElem?_eq_some_iff.1 hjp).1
    have hpan : ∀ {E1 : Env} {a1 : Act} {w1 : World} {v1 : Value} {sl2 : List AV}, k (.pan v) sl2 (upd C.M up) (raise C.cur vers) (nx + opsA.size) ds = some R → WR P E1 F.S (upd C.M up) (raise C.cur vers) (fun k => k < nx + opsA.size) w1 → Later E cur E1 (raise C.cur vers) → CR P E1.H v v1 → SlW P E1 (raise C.cur vers) sl2 a1.tmps → a1.defers = a.defers →
        KQ P F k R (.panic [{ v := v1, recovered := false }]) a1 w1 := by
      intro E1 a1 w1 v1 sl2 hk hW hL hc hs2 hd1
      exact ⟨_, _, _, _, _, v, v1, E1, hk, rfl, hW, by omega, fun j hj b hb => hL.β j b (hkeep j hj b hb), hc, hs2, by rw [hd1]; exact hds.mono fun _ _ => DefR.later hL⟩
    cases draw with
    | false =>
      simp only [Bool.not_false, Bool.true_or, cond_true, cond_false] at h4
      refine wp_region ?_
      have := text_ok (P := P) (glob := glob) (S := F.S) (ops := opsA.toList) (B := nx) hg (opsA := opsA) rfl (Q := KQ P F k R) (K := wpOps P opsA (KQ P F k R) ((0 + pre.length) :: List.range' (pre.length + 1) post.length)) (d0 := a.defers) (C := C) (E0 := E) (items := items) (rest := pre) (j := 0) (s := ⟨sl, M, cur⟩) (E := E) (a := a) (w := w) h1
        (prefix_get h0) h2 hw hs (Later.refl _ _) hd fun a1 w1 E1 hW hL hs1 hd1 => ?_
      · rw [foldr_wpOps] at this
        have hr : List.range' 0 pre.length ++ (0 + pre.length) :: List.range' (pre.length + 1) post.length = List.range opsA.size := by
          have hsz : opsA.size = pre.length + (post.length + 1) := by rw [← hsize, h0]; simp
          rw [List.range_eq_range', hsz, ← List.range'_append_1, List.range'_succ]
          simp only [Nat.zero_add]
        rw [hr] at this
        exact this
      · rw [wpOps_cons]
        refine pan_ok hW (by omega) hg hs1 rfl hjp h3 fun v1 w2 E2 hW2 hL2 hc => ?_
        exact hpan h4 (hW2.more fun k hk => by rcases hk with h | h <;> omega) (hL.trans hL2) hc (SlR.later hL2 hs1).weak hd1
    | true =>
      simp only [Bool.not_true, Bool.false_or, List.append_nil] at h4 hdr
      cases hq : (panOk (Region.before opsA) (0 + pre.length) (⟨0 + pre.length, rds, up.map (·.1), vers.map (·.1) ++ tks⟩ :: trOf items) opsA.size && (quiets (⟨0 + pre.length, rds, up.map (·.1), vers.map (·.1) ++ tks⟩ :: trOf items) || orderOk (Region.before opsA) (⟨0 + pre.length, rds, up.map (·.1), vers.map (·.1) ++ tks⟩ :: trOf items)))
      · rw [hq] at h4; simp at h4
      · rw [hq] at h4
        simp only [cond_true] at h4
        simp only [Bool.and_eq_true] at hq
        obtain ⟨hp1, hp2⟩ := hq
        have hpt := (List.pairwise_cons.1 (orderOk_pairs hp2)).2
        simp only [panOk, Bool.and_eq_true, List.all_eq_true, List.mem_range, Bool.or_eq_true] at hp1
        have hitems : ∀ x ∈ items, opsA[x.1]? = some x.2.1 ∧ x.1 < 0 + pre.length := fun x hx => by
          obtain ⟨q1, q2, q3⟩ := numbered_lt h1 x hx
          refine ⟨?_, q3⟩
          rw [Nat.sub_zero] at q2
          rw [← Array.getElem?_toList, h0, List.getElem?_append_left (by omega)]
          exact q2
        have hpairs := pairs_of hdr h1 (fun x hx => (hitems x hx).1) hpt
        refine wp_region_any hm ?_
        have hlen : items.length = pre.length := by
          have : ∀ (l : List Oper) (j : Nat), (numbered j l).length = l.length := by
            intro l
            induction l with
            | nil => intro j; rfl
            | cons x l ih => intro j; simp [numbered, ih]
          have h := congrArg List.length h1
          rw [this] at h
          simpa using h
        refine any_pan hg rfl hdr (d0 := a.defers) (E0 := E) (c0 := cur) hjp h3 (fun i hi hi2 => ?_) (fun v1 a1 w1 E1 U1 hW hU hL hc hd1 => hpan h4 (hW.more hU) hL hc SlW.nil hd1) opsA.size (items := items) (s := ⟨sl, M, cur⟩) (E := E) (U := fun k => k < nx) (by omega) h2 hpairs hitems
          (fun x hx => ?_) ⟨by simp, fun i o ho hl => ?_⟩ (fun i hi => ?_) (hw.drewN _) (fun x hx => by omega) (by omega) (fun k hk => by omega) (Later.refl _ _) hs hd
        · rcases hp1.2 i hi2 with h | h
          · have := Nat.le_of_ble_eq_true h; omega
          · exact h
        · rcases inf_cases x.1 x.2.2 with hsk | ⟨t, ht⟩
          · rw [hsk]; exact .inr ⟨rfl, rfl⟩
          · obtain ⟨t1, t2, t3, t4⟩ := trOf1_mem ht
            rcases hp1.1 t (List.mem_cons_of_mem _ (trOf_mem ht hx)) with (h | h) | h
            · have := Nat.eq_of_beq_eq_true h
              have := (hitems x hx).2; omega
            · rw [t1] at h; exact .inl h
            · obtain ⟨q1, q2⟩ := quiet_spec h
              rw [t2] at q1; rw [t4] at q2
              exact .inr ⟨q1, q2⟩
        · have hi := (Array.getElem?_eq_some_iff.1 ho).1
          simp [Array.getD_eq_getD_getElem?, hi] at hl
        · have : (Array.replicate opsA.size false).getD i true = false := by simp [Array.getD_eq_getD_getElem?, hi]
          simp only [this, true_iff]
          rcases Nat.lt_or_ge i pre.length with hlt | hge
          · obtain ⟨x, hx, he⟩ := numbered_all h1 i hlt
            exact .inl ⟨x, hx, by omega⟩
          · exact .inr (by omega)
end
end Go.AI

/-
  CODE (2): a loop's head, a function's end. Nothing here is about one program.
-/
set_option linter.unusedVariables false
set_option linter.unusedSimpArgs false
namespace Go.AI

/-- where a right comes from -/
inductive TSrc where
  | nil (e : TypeId)
  | tk (k : Tok)

def ceSrc (cur : Cur) (M : Mem) (B id off : Nat) : Option TSrc :=
  if id < B then match M id with
    | some (.box cs) => match lget cs off .unk with
      | .lst _ _ (.tk k ver) => if (Nat.beq (cur k) ver && !(slotTok k)) = true then some (.tk k) else none
      | _ => none
    | _ => none
  else none
def headSrc (cur : Cur) (M : Mem) (B : Nat) (sls : Nat → Option TSrc) : Tok → Option TSrc
  | .sl j => sls j
  | .ce id off => ceSrc cur M B id off
  | _ => none
def headE (E : Env) (cur : Cur) (M : Mem) (B : Nat) (sls : Nat → Option TSrc) : Env where
  H := E.H
  β id := if id < B then E.β id else none
  own t := match headSrc cur M B sls t with
    | some (.nil e) => some (e, .slice none 0 0)
    | some (.tk k) => E.own k
    | none => none
  rt t := match headSrc cur M B sls t with
    | some (.nil e) => true
    | some (.tk k) => E.rt k
    | none => false
  loc
    | .ce id off => some (id, off)
    | _ => none

theorem ceSrc_spec {cur : Cur} {M : Mem} {B id off : Nat} {x : TSrc} (h : ceSrc cur M B id off = some x) : ∃ cs e r k, x = .tk k ∧ id < B ∧ M id = some (.box cs) ∧ lget cs off .unk = .lst e r (.tk k (cur k)) ∧ slotTok k = false := by
  unfold ceSrc at h
  split at h
  · rename_i hid
    split at h
    · rename_i cs hM
      split at h
      · rename_i e r k ver hc
        split at h
        · rename_i hb
          simp only [Bool.and_eq_true, Bool.not_eq_true'] at hb
          have := Nat.eq_of_beq_eq_true hb.1
          subst this
          cases h
          exact ⟨cs, e, r, k, rfl, hid, hM, hc, hb.2⟩
        · cases h
      · cases h
    · cases h
  · cases h

/-! ### what lies below a number stays -/
section
variable {P : Program} {E : Env} {S : Start} {M : Mem} {cur : Cur} {U : Nat → Prop} {w : World} {B : Nat} {sls : Nat → Option TSrc}

theorem below_simp {v : AV} {u : Value} (h : below1 B v = true) (hv : SimpR P E v u) : SimpR P (headE E cur M B sls) v u := by
  cases v
  case ptr id off =>
    obtain ⟨b, hb, hu⟩ := hv
    exact ⟨b, by simp only [headE]; rw [if_pos (show id < B from Nat.le_of_ble_eq_true h)]; exact hb, hu⟩
  case bsl e id off len cap =>
    obtain ⟨b, hb, hu⟩ := hv
    exact ⟨b, by simp only [headE]; rw [if_pos (show id < B from Nat.le_of_ble_eq_true h)]; exact hb, hu⟩
  case map id =>
    obtain ⟨b, hb, hu⟩ := hv
    exact ⟨b, by simp only [headE]; rw [if_pos (show id < B from Nat.le_of_ble_eq_true h)]; exact hb, hu⟩
  all_goals exact hv
theorem belowL_get : ∀ {cs : List AV}, belowL B cs = true → ∀ i, i < cs.length → below1 B (lget cs i .unk) = true ∧ noTk (lget cs i .unk) = true
  | [], _, i, hi => by simp at hi
  | c :: cs, h, i, hi => by
    simp only [belowL] at h
    cases hc : (below1 B c && noTk c)
    · simp [hc] at h
    · simp only [hc, cond_true] at h
      cases i with
      | zero => simpa [lget] using hc
      | succ i => exact belowL_get h i (by simpa using hi)
theorem belowAll_get : ∀ {cs : List AV}, belowAll B cs = true → ∀ i, i < cs.length → belowV B (lget cs i .unk) = true
  | [], _, i, hi => by simp at hi
  | c :: cs, h, i, hi => by
    simp only [belowAll] at h
    cases hc : belowV B c
    · simp [hc] at h
    · simp only [hc, cond_true] at h
      cases i with
      | zero => exact hc
      | succ i => exact belowAll_get h i (by simpa using hi)
/-- a cell whose right is not counted -/
theorem below_cell {v : AV} {u : Value} (h : belowV B v = true) (hm : noTk v = true) (hv : CellR P E cur v u) {c : Cur} : CellR P (headE E cur M B sls) c v u := by
  cases v
  case unk => trivial
  case undef => exact hv
  case agg cs => exact hv.elim
  case tup cs => exact hv.elim
  case lst e r m =>
    refine ⟨hv.1, ?_⟩
    cases m with
    | view => trivial
    | nil => exact hv.2
    | tk k ver => simp [noTk] at hm
  case fn f a c =>
    obtain ⟨a', c', hu, h1, h2⟩ := hv
    simp only [belowV, Bool.and_eq_true] at h
    refine ⟨a', c', hu, ?_, ?_⟩
    · exact All2.of_get .unk undef h1.length fun i hi => below_simp (belowL_get h.1 i hi).1 (h1.get i .unk undef hi)
    · exact All2.of_get .unk undef h2.length fun i hi => below_simp (belowL_get h.2 i hi).1 (h2.get i .unk undef hi)
  all_goals (simp only [CellR] at hv ⊢; refine below_simp (sls := sls) (M := M) (cur := cur) ?_ hv; exact h)
theorem plain_noTk (v : AV) : noTk (plain v) = true := by cases v <;> rfl
theorem plain_below {v : AV} (h : belowV B v = true) : belowV B (plain v) = true := by cases v <;> first | exact h | rfl
theorem below_val {v : AV} {u : Value} (h : belowV B v = true) (hm : noTk v = true) (hv : ValR P E cur v u) {c : Cur} : ValR P (headE E cur M B sls) c v u := by
  cases v
  case agg cs =>
    obtain ⟨vs, hu, h1⟩ := hv
    refine ⟨vs, hu, All2.of_get .unk undef h1.length fun i hi => ?_⟩
    obtain ⟨q1, q2⟩ := belowL_get h i hi
    have hx := h1.get i .unk undef hi
    refine below_cell ?_ q2 hx
    generalize lget cs i .unk = x at q1 q2 hx
    cases x
    case agg => simp [below1] at q1
    case fn f a c => cases a <;> cases c <;> simp [below1] at q1; rfl
    all_goals exact q1
  all_goals (refine valR_of_cell (below_cell (sls := sls) (M := M) (cur := cur) ?_ hm ?_); exact h; exact hv)

def normC (cur : Cur) (id off : Nat) : AV → AV
  | .lst e r (.tk k ver) => .lst e r (cond (Nat.beq (cur k) ver && !(slotTok k)) (.tk (.ce id off) 0) .view)
  | c => plain c
theorem normL_cons (id off : Nat) (c : AV) (cs : List AV) : normL cur id off (c :: cs) = normC cur id off c :: normL cur id (off + 1) cs := by
  cases c <;> try rfl
  rename_i e r m
  cases m <;> rfl
theorem normL_length (id : Nat) : ∀ (cs : List AV) (off : Nat), (normL cur id off cs).length = cs.length
  | [], _ => rfl
  | c :: cs, off => by rw [normL_cons]; simp [normL_length id cs]
theorem normL_get (id : Nat) : ∀ (cs : List AV) (off i : Nat), i < cs.length → lget (normL cur id off cs) i .unk = normC cur id (off + i) (lget cs i .unk)
  | c :: cs, off, 0, _ => by rw [normL_cons]; rfl
  | c :: cs, off, i + 1, h => by
    rw [normL_cons]; simp only [lget]
    rw [normL_get id cs (off + 1) i (by simpa using h), show off + 1 + i = off + (i + 1) from by omega]

theorem gc_spec {id : Nat} {o' : AObj} (h : gc B cur M id = some o') : id < B ∧ ∃ o, M id = some o ∧ belowO B o = true ∧ o' = normO cur id o := by
  unfold gc at h
  cases hb : Nat.blt id B
  · simp [hb] at h
  · simp only [hb, cond_true] at h
    cases hM : M id with
    | none => simp [hM] at h
    | some o =>
      simp only [hM] at h
      cases hbo : belowO B o
      · simp [hbo] at h
      · simp only [hbo, cond_true, Option.some.injEq] at h
        exact ⟨Nat.le_of_ble_eq_true hb, o, rfl, hbo, h.symm⟩

theorem norm_obj {id b : Nat} {o : AObj} (hid : id < B) (hM : M id = some o) (hbo : belowO B o = true) (h : ObjR P E cur w id b o) : ObjR P (headE E cur M B sls) cur0 w id b (normO cur id o) := by
  cases o with
  | map kk et es => exact h
  | box cs =>
    obtain ⟨vs, ty, h1, h2, h3, h4⟩ := h
    have hlv := h2.length
    refine ⟨vs, ty, h1, ?_, ?_, ?_⟩
    · refine All2.of_get .unk undef (by rw [normL_length]; exact hlv) fun i hi => ?_
      rw [normL_length] at hi
      rw [normL_get _ _ _ _ hi, Nat.zero_add]
      have hc := h2.get i .unk undef hi
      have hbl := belowAll_get hbo i hi
      unfold normC
      split
      · rename_i e r k ver heq
        rw [heq] at hc
        cases hb : (Nat.beq (cur k) ver && !(slotTok k))
        · exact ⟨hc.1, trivial⟩
        · have hsrc : ceSrc cur M B id i = some (.tk k) := by
            unfold ceSrc
            simp only [hid, if_true, hM, heq, hb]
          simp only [Bool.and_eq_true] at hb
          have hver := Nat.eq_of_beq_eq_true hb.1
          obtain ⟨u, m1, m2, m3⟩ := hc.2
          obtain ⟨rfl, m4⟩ := m3 hver
          refine ⟨hc.1, lget vs i undef, ?_, Nat.zero_le _, fun _ => ⟨rfl, ?_⟩⟩
          · simp only [headE, headSrc, hsrc]; exact m1
          · simp only [headE, headSrc, hsrc]; exact m4
      · exact below_cell (plain_below hbl) (plain_noTk _) (plain_cell hc)
    · refine boxables_of_get fun i hi => ?_
      rw [normL_length] at hi
      rw [normL_get _ _ _ _ hi]
      have hbx := boxables_get h3 i hi
      unfold normC
      split
      · rfl
      · exact boxable_plain hbx
    · intro off e r k ver hoff
      have hlt : off < cs.length := by
        rcases Nat.lt_or_ge off cs.length with h | h
        · exact h
        · rw [lget_eq, List.getD, List.getElem?_eq_none (by rw [normL_length]; exact h)] at hoff; cases hoff
      rw [normL_get _ _ _ _ hlt, Nat.zero_add] at hoff
      unfold normC at hoff
      split at hoff
      · rename_i e' r' k' ver' heq
        cases hb : (Nat.beq (cur k') ver' && !(slotTok k')) <;> simp only [hb, cond_true, cond_false] at hoff <;> cases hoff
        rfl
      · have := plain_noTk (lget cs off .unk)
        rw [hoff] at this; cases this

theorem gc_WR (hw : WR P E S M cur U w) (hsl : ∀ j k, sls j = some (.tk k) → slotTok k = true) (hinj : ∀ j j' k, sls j = some (.tk k) → sls j' = some (.tk k) → j = j') : WR P (headE E cur M B sls) S (gc B cur M) cur0 (fun k => k < B) w := by
  have src : ∀ {t t' : Tok} {k : Tok}, headSrc cur M B sls t = some (.tk k) → headSrc cur M B sls t' = some (.tk k) → t = t' := by
    intro t t' k h h'
    cases t with
    | sl j =>
      cases t' with
      | sl j' => rw [hinj j j' k h h']
      | ce id off =>
        obtain ⟨_, _, _, k2, e2, _, _, _, hs⟩ := ceSrc_spec h'
        cases e2
        rw [hsl j k h] at hs; cases hs
      | _ => cases h'
    | ce id off =>
      obtain ⟨cs, e, r, k2, e2, hid, hM, hc, hs⟩ := ceSrc_spec h
      cases e2
      cases t' with
      | sl j' => rw [hsl j' k h'] at hs; cases hs
      | ce id' off' =>
        obtain ⟨cs', e', r', k3, e3, hid', hM', hc', _⟩ := ceSrc_spec h'
        cases e3
        obtain ⟨b, _, vs, ty, _, _, _, hl⟩ := hw.mem id _ hM
        obtain ⟨b', _, vs', ty', _, _, _, hl'⟩ := hw.mem id' _ hM'
        have := hl off e r k _ hc
        rw [hl' off' e' r' k _ hc'] at this
        cases this; rfl
      | _ => cases h'
    | _ => cases h
  have β' : ∀ {i b : Nat}, (headE E cur M B sls).β i = some b → i < B ∧ E.β i = some b := by
    intro i b h
    simp only [headE] at h
    split at h
    · exact ⟨by assumption, h⟩
    · cases h
  have own' : ∀ {t : Tok} {e : TypeId} {u : Value}, (headE E cur M B sls).own t = some (e, u) → (headE E cur M B sls).rt t = true → u = .slice none 0 0 ∨ ∃ k, headSrc cur M B sls t = some (.tk k) ∧ E.own k = some (e, u) ∧ E.rt k = true := by
    intro t e u h hr
    simp only [headE] at h hr
    split at h
    · cases h; exact .inl rfl
    · rename_i k hk
      simp only [hk] at hr
      exact .inr ⟨k, hk, h, hr⟩
    · cases h
  refine
    { mem := fun id o' h => ?_, inj := fun i j b hi hj => hw.inj i j b (β' hi).2 (β' hj).2, bnd := fun i b hi => hw.bnd i b (β' hi).2, freshβ := fun n hn => by simp only [headE]; rw [if_neg hn],
      freshR := fun n hn => rfl, freshC := fun n j off hn => rfl, heap := hw.heap, ext := hw.ext, acc := hw.acc, rights := fun t e u h hr => ?_, dist := fun t t' e e' u u' g h1 r1 h2 r2 g1 g2 => ?_,
      os := hw.os, tape := hw.tape, output := hw.output, size := hw.size, frame := hw.frame }
  · obtain ⟨hid, o, hM, hbo, rfl⟩ := gc_spec h
    obtain ⟨b, hb, hobj⟩ := hw.mem id o hM
    exact ⟨b, by simp only [headE]; rw [if_pos hid]; exact hb, norm_obj hid hM hbo hobj⟩
  · rcases own' h hr with rfl | ⟨k, hk, h1, h2⟩
    · exact ⟨.inl rfl, fun g hg => by simp [Value.ownBlock] at hg⟩
    · obtain ⟨q1, q2⟩ := hw.rights k e u h1 h2
      refine ⟨?_, q2⟩
      rcases q1 with q1 | ⟨g, m, cap, blk, p0, p1, p2, p3, p4, p5, p6⟩
      · exact .inl q1
      · exact .inr ⟨g, m, cap, blk, p0, p1, p2, p3, p4, p5, fun id hb => p6 id (β' hb).2⟩
  · rcases own' h1 r1 with rfl | ⟨k, hk, q1, q2⟩
    · simp [Value.ownBlock] at g1
    · rcases own' h2 r2 with rfl | ⟨k', hk', q1', q2'⟩
      · simp [Value.ownBlock] at g2
      · have := hw.dist k k' e e' u u' g q1 q2 q1' q2' g1 g2
        subst this
        exact src hk hk'
end
end Go.AI
