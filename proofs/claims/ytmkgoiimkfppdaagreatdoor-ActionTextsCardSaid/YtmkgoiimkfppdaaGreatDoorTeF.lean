/- ActionTexts of boathouse/action: for all a, b, which the law's function returns true and leaves its arguments alone; no condition. The machine side: an abstract interpreter of the model's code, proved sound once, and the functions that it comes to, printed and checked; the plain side: what Put prints for any list of actions, and the seven texts word by word. -/
import Derived.Test.YtmkgoiimkfppdaaGreatDoorTeE
set_option linter.unusedVariables false
set_option linter.unusedSimpArgs false
set_option maxRecDepth 100000
namespace Go.AI
open Go.Proofs
theorem okF77a (k : Nat) (q77a : Int → LB → Int → (Int → Bool → Int → LB → LR → LR → LB → Int → OR) → (Int → LB → Int → OR) → OR) (h77a : SpecOK Tryz.prog Gl (W77a q77a) 77) : SpecOK Tryz.prog Gl (W77a (F77a' k q77a)) 77 :=
  mk_ok' (ρ := (rhoL [(125, W125a (f125a k)), (126, W126a (f126a k)), (127, W127a (f127a k)), (128, W128b (f128b k q77a)), (129, W129a (f129a k))])) (rhoL_ok (forall_cons (ok125a k) (forall_cons (ok126a k) (forall_cons (ok127a k) (forall_cons (ok128b k q77a h77a) (forall_cons (ok129a k) forall_nil)))))) Tryz_mixed (g := 77) (fn := Tryz.f77) (by kernel_rfl) (by kernel_rfl) k fun h h' K => (run77a (f125a k) (f126a k) (f127a k) (f128b k q77a) (f129a k) jpId k K (hI (lget h 1 .no)) (hS (lget h' 0 .no)) (hI (lget h' 1 .no))).trans (by simp only [loop77aj14 k q77a K]; rfl)
theorem okr77a (k : Nat) : ∀ d, SpecOK Tryz.prog Gl (W77a (fr77a k d)) 77
  | 0 => SpecOK.nothing fun args os F h K => by
    simp only [W77a, mkSpec, Option.bind_eq_some_iff, Option.map_eq_some_iff] at h
    obtain ⟨_, _, _, _, rfl⟩ := h
    rfl
  | d + 1 => okF77a k (fr77a k d) (okr77a k d)
theorem ok77a (k : Nat) : SpecOK Tryz.prog Gl (W77a (f77a k)) 77 := okr77a k k
noncomputable def T45a {α : Type} (c76a : LB → Int → (Int → Option α) → Option α) (c77a : Int → LB → Int → (Int → Bool → Int → LB → LR → LR → LB → Int → Option α) → (Int → LB → Int → Option α) → Option α) (c78a : (Option α) → (Int → Option α) → Option α) (K : (Int → Bool → Int → LB → LR → LR → Int → Option α)) (x0 : LB) : Option α :=
  (bif (igt (slen x0) (65536 : Int)) then (K (0 : Int) false (0 : Int) ([] : LB) [] [] (302 : Int)) else (c76a x0 (0 : Int) (fun y0 => (c77a (0 : Int) x0 y0 (fun y1 y2 y3 y4 y5 y6 y7 y8 => (c76a y7 y8 (fun y9 => (bif (ine y9 (slen x0)) then (c78a none (fun y10 => (bif (ine y10 (0 : Int)) then (K (0 : Int) false (0 : Int) ([] : LB) [] [] y10) else (K y1 y2 y3 y4 y5 y6 y10)))) else (K y1 y2 y3 y4 y5 y6 (0 : Int)))))) (fun y9 y10 y11 => (bif (ine y9 (0 : Int)) then (K (0 : Int) false (0 : Int) ([] : LB) [] [] y9) else (K (0 : Int) false (0 : Int) ([] : LB) [] [] y9)))))))
noncomputable def f45a {α : Type} (k : Nat) (x0 : LB) (K : (Int → Bool → Int → LB → LR → LR → Int → Option α)) : Option α := T45a (f76a k) (f77a k) (f78a k) K x0
noncomputable def W45a (F : LB → (Int → Bool → Int → LB → LR → LR → Int → OR) → OR) : Spec := mkSpec [(.c .s)] [] fun h h' K => F (hS (lget h 0 .no)) (fun y0 y1 y2 y3 y4 y5 y6 => K (.ok (AV.tup [(AV.agg [(ai y0), (AV.b y1), (ai y2), (AV.s y3), (AV.lst 83 y4 vw), (AV.lst 9 y5 vw)]), (ai y6)]) []))
theorem run45a (c76a : LB → Int → (Int → OR) → OR) (c77a : Int → LB → Int → (Int → Bool → Int → LB → LR → LR → LB → Int → OR) → (Int → LB → Int → OR) → OR) (c78a : (OR) → (Int → OR) → OR) (jp : JP) (k : Nat) (K : Res → OR) (x0 : LB) : runF Tryz.prog Gl (rhoL [(76, W76a c76a), (77, W77a c77a), (78, W78a c78a)]) (loopN k) jp Tryz.f45 [(AV.s x0)] [] K = T45a c76a c77a c78a (fun y0 y1 y2 y3 y4 y5 y6 => K (.ok (AV.tup [(AV.agg [(ai y0), (AV.b y1), (ai y2), (AV.s y3), (AV.lst 83 y4 vw), (AV.lst 9 y5 vw)]), (ai y6)]) [])) x0 := by kernel_rfl
theorem ok45a (k : Nat) : SpecOK Tryz.prog Gl (W45a (f45a k)) 45 :=
  mk_ok' (ρ := (rhoL [(76, W76a (f76a k)), (77, W77a (f77a k)), (78, W78a (f78a k))])) (rhoL_ok (forall_cons (ok76a k) (forall_cons (ok77a k) (forall_cons (ok78a k) forall_nil)))) Tryz_mixed (g := 45) (fn := Tryz.f45) (by kernel_rfl) (by kernel_rfl) k fun h h' K => (run45a (f76a k) (f77a k) (f78a k) jpId k K (hS (lget h 0 .no))).trans rfl
noncomputable def T132al0 {α : Type} (r0 : Int → Option α) (K : (Int → Bool → Int → LB → LR → LR → Bool → Option α)) (x0 : Int) (x1 : Bool) (x2 : Int) (x3 : LB) (x4 x5 : LR) (x6 : LB) (x7 : Bool) (s0_3 : Int) : Option α :=
  (bif (ilt s0_3 (rlen x5)) then (bif (ile (0 : Int) s0_3) then (bif (ilt s0_3 (rlen x5)) then (bif (seq (toS (lget (rget x5 s0_3) 0 uk)) x6) then (bif (ile (0 : Int) s0_3) then (bif (ilt s0_3 (rlen x4)) then (K (toI (lget (rget x4 s0_3) 0 uk)) (toB (lget (rget x4 s0_3) 1 uk)) (toI (lget (rget x4 s0_3) 2 uk)) (toS (lget (rget x4 s0_3) 3 uk)) (toR (lget (rget x4 s0_3) 4 uk)) (toR (lget (rget x4 s0_3) 5 uk)) x7) else none) else none) else (r0 (wadd i6 s0_3 (1 : Int)))) else none) else none) else (K (0 : Int) false (0 : Int) ([] : LB) [] [] true))
noncomputable def T132a {α : Type} (l0 : Int → Bool → Int → LB → LR → LR → LB → Bool → Int → Option α) (K : (Int → Bool → Int → LB → LR → LR → Bool → Option α)) (x0 : Int) (x1 : Bool) (x2 : Int) (x3 : LB) (x4 x5 : LR) (x6 : LB) (x7 : Bool) : Option α :=
  (l0 x0 x1 x2 x3 x4 x5 x6 x7 (0 : Int))
noncomputable def L132al0 {α : Type} (k : Nat) (K : (Int → Bool → Int → LB → LR → LR → Bool → Option α)) (x0 : Int) (x1 : Bool) (x2 : Int) (x3 : LB) (x4 x5 : LR) (x6 : LB) (x7 : Bool) : Nat → Int → Option α
  | 0, _ => none
  | n + 1, s0_3 => T132al0 (fun s0_3 => L132al0 k K x0 x1 x2 x3 x4 x5 x6 x7 n s0_3) K x0 x1 x2 x3 x4 x5 x6 x7 s0_3
noncomputable def f132a {α : Type} (k : Nat) (x0 : Int) (x1 : Bool) (x2 : Int) (x3 : LB) (x4 x5 : LR) (x6 : LB) (x7 : Bool) (K : (Int → Bool → Int → LB → LR → LR → Bool → Option α)) : Option α := T132a (fun x0 x1 x2 x3 x4 x5 x6 x7 s0_3 => (L132al0 k K x0 x1 x2 x3 x4 x5 x6 x7 k) s0_3) K x0 x1 x2 x3 x4 x5 x6 x7
noncomputable def W132a (F : Int → Bool → Int → LB → LR → LR → LB → Bool → (Int → Bool → Int → LB → LR → LR → Bool → OR) → OR) : Spec := mkSpec [(.c (.p 0 0)), (.agg [(.i i6), .b, (.i i6), .s, (.l 83 vw), (.l 9 vw)]), (.c .s)] [(.box [(.c .b)])] fun h h' K => F (hI (lget h 1 .no)) (hB (lget h 2 .no)) (hI (lget h 3 .no)) (hS (lget h 4 .no)) (hR (lget h 5 .no)) (hR (lget h 6 .no)) (hS (lget h 7 .no)) (hB (lget h' 0 .no)) (fun y0 y1 y2 y3 y4 y5 y6 => K (.ok (AV.agg [(ai y0), (AV.b y1), (ai y2), (AV.s y3), (AV.lst 83 y4 vw), (AV.lst 9 y5 vw)]) [(AObj.box [(AV.b y6)])]))
noncomputable def R132al0 (ρ : FuncId → Fn) (jp : JP) (k : Nat) (K : Res → OR) (x0 : Int) (x1 : Bool) (x2 : Int) (x3 : LB) (x4 x5 : LR) (x6 : LB) (x7 : Bool) (n : Nat) (s0_3 : Int) : OR :=
  atLoop Tryz.prog Gl ρ (loopN k) jp Tryz.f132 1 K [1, 0, 1, 0] [] n 7 [(AV.ptr 0 0), uk, (AV.s x6), uk, (AV.ptr 1 0), uk, (AV.ptr 2 0), uk, uk, uk, (AV.lst 9 x5 vw), (ai (rlen x5)), (ai s0_3), uk, uk, uk, uk, uk, uk, uk, uk, uk, uk, uk, uk, uk, uk, uk, uk, uk] [(Prod.mk 0 (AObj.box [(AV.b x7)])), (Prod.mk 1 (AObj.box [(ai x0), (AV.b x1), (ai x2), (AV.s x3), (AV.lst 83 x4 vw), (AV.lst 9 x5 vw)])), (Prod.mk 2 (AObj.box [(ai (0 : Int)), (AV.b false), (ai (0 : Int)), (AV.s ([] : LB)), (AV.lst 83 [] (Mark.tk (Tok.ce 2 4) 0)), (AV.lst 9 [] (Mark.tk (Tok.ce 2 5) 0))]))] []
theorem step132al0 (jp : JP) (k : Nat) (K : Res → OR) (x0 : Int) (x1 : Bool) (x2 : Int) (x3 : LB) (x4 x5 : LR) (x6 : LB) (x7 : Bool) (n : Nat) (s0_3 : Int) : R132al0 (rhoL []) jp k K x0 x1 x2 x3 x4 x5 x6 x7 (n + 1) s0_3 = T132al0 (fun s0_3 => R132al0 (rhoL []) jp k K x0 x1 x2 x3 x4 x5 x6 x7 n s0_3) (fun y0 y1 y2 y3 y4 y5 y6 => K (.ok (AV.agg [(ai y0), (AV.b y1), (ai y2), (AV.s y3), (AV.lst 83 y4 vw), (AV.lst 9 y5 vw)]) [(AObj.box [(AV.b y6)])])) x0 x1 x2 x3 x4 x5 x6 x7 s0_3 := by kernel_rfl
theorem loop132al0 (k : Nat) (K : Res → OR) (x0 : Int) (x1 : Bool) (x2 : Int) (x3 : LB) (x4 x5 : LR) (x6 : LB) (x7 : Bool) : ∀ (n : Nat) (s0_3 : Int), R132al0 (rhoL []) jpId k K x0 x1 x2 x3 x4 x5 x6 x7 n s0_3 = L132al0 k (fun y0 y1 y2 y3 y4 y5 y6 => K (.ok (AV.agg [(ai y0), (AV.b y1), (ai y2), (AV.s y3), (AV.lst 83 y4 vw), (AV.lst 9 y5 vw)]) [(AObj.box [(AV.b y6)])])) x0 x1 x2 x3 x4 x5 x6 x7 n s0_3 := by
  intro n
  induction n generalizing x0 x1 x2 x3 x4 x5 x6 x7 with
  | zero => intro s0_3; kernel_rfl
  | succ n ih =>
    intro s0_3
    rw [step132al0 jpId k K]
    simp only [ih]
    kernel_rfl
theorem run132a (jp : JP) (k : Nat) (K : Res → OR) (x0 : Int) (x1 : Bool) (x2 : Int) (x3 : LB) (x4 x5 : LR) (x6 : LB) (x7 : Bool) : runF Tryz.prog Gl (rhoL []) (loopN k) jp Tryz.f132 [(AV.ptr 0 0), (AV.agg [(ai x0), (AV.b x1), (ai x2), (AV.s x3), (AV.lst 83 x4 vw), (AV.lst 9 x5 vw)]), (AV.s x6)] [(AObj.box [(AV.b x7)])] K = T132a (fun x0 x1 x2 x3 x4 x5 x6 x7 s0_3 => R132al0 (rhoL []) jp k K x0 x1 x2 x3 x4 x5 x6 x7 k s0_3) (fun y0 y1 y2 y3 y4 y5 y6 => K (.ok (AV.agg [(ai y0), (AV.b y1), (ai y2), (AV.s y3), (AV.lst 83 y4 vw), (AV.lst 9 y5 vw)]) [(AObj.box [(AV.b y6)])])) x0 x1 x2 x3 x4 x5 x6 x7 := by kernel_rfl
theorem ok132a (k : Nat) : SpecOK Tryz.prog Gl (W132a (f132a k)) 132 :=
  mk_ok' (ρ := (rhoL [])) (rhoL_ok forall_nil) Tryz_mixed (g := 132) (fn := Tryz.f132) (by kernel_rfl) (by kernel_rfl) k fun h h' K => (run132a jpId k K (hI (lget h 1 .no)) (hB (lget h 2 .no)) (hI (lget h 3 .no)) (hS (lget h 4 .no)) (hR (lget h 5 .no)) (hR (lget h 6 .no)) (hS (lget h 7 .no)) (hB (lget h' 0 .no))).trans (by simp only [loop132al0 k K]; rfl)
noncomputable def T80a {α : Type} (K : (Bool → Option α)) (x0 : Int) (x1 : Bool) (x2 : Int) (x3 : LB) (x4 x5 : LR) (x6 : Int) (x7 : Bool) : Option α :=
  (bif x7 then (K true) else (K (ine x0 x6)))
noncomputable def f80a {α : Type} (k : Nat) (x0 : Int) (x1 : Bool) (x2 : Int) (x3 : LB) (x4 x5 : LR) (x6 : Int) (x7 : Bool) (K : (Bool → Option α)) : Option α := T80a K x0 x1 x2 x3 x4 x5 x6 x7
noncomputable def W80a (F : Int → Bool → Int → LB → LR → LR → Int → Bool → (Bool → OR) → OR) : Spec := mkSpec [(.c (.p 0 0)), (.agg [(.i i6), .b, (.i i6), .s, (.l 83 vw), (.l 9 vw)]), (.c (.i i6))] [(.box [(.c .b)])] fun h h' K => F (hI (lget h 1 .no)) (hB (lget h 2 .no)) (hI (lget h 3 .no)) (hS (lget h 4 .no)) (hR (lget h 5 .no)) (hR (lget h 6 .no)) (hI (lget h 7 .no)) (hB (lget h' 0 .no)) (fun y0 => K (.ok (AV.agg [(ai (hI (lget h 1 .no))), (AV.b (hB (lget h 2 .no))), (ai (hI (lget h 3 .no))), (AV.s (hS (lget h 4 .no))), (AV.lst 83 (hR (lget h 5 .no)) vw), (AV.lst 9 (hR (lget h 6 .no)) vw)]) [(AObj.box [(AV.b y0)])]))
theorem run80a (jp : JP) (k : Nat) (K : Res → OR) (x0 : Int) (x1 : Bool) (x2 : Int) (x3 : LB) (x4 x5 : LR) (x6 : Int) (x7 : Bool) : runF Tryz.prog Gl (rhoL []) (loopN k) jp Tryz.f80 [(AV.ptr 0 0), (AV.agg [(ai x0), (AV.b x1), (ai x2), (AV.s x3), (AV.lst 83 x4 vw), (AV.lst 9 x5 vw)]), (ai x6)] [(AObj.box [(AV.b x7)])] K = T80a (fun y0 => K (.ok (AV.agg [(ai x0), (AV.b x1), (ai x2), (AV.s x3), (AV.lst 83 x4 vw), (AV.lst 9 x5 vw)]) [(AObj.box [(AV.b y0)])])) x0 x1 x2 x3 x4 x5 x6 x7 := by kernel_rfl
theorem ok80a (k : Nat) : SpecOK Tryz.prog Gl (W80a (f80a k)) 80 :=
  mk_ok' (ρ := (rhoL [])) (rhoL_ok forall_nil) Tryz_mixed (g := 80) (fn := Tryz.f80) (by kernel_rfl) (by kernel_rfl) k fun h h' K => (run80a jpId k K (hI (lget h 1 .no)) (hB (lget h 2 .no)) (hI (lget h 3 .no)) (hS (lget h 4 .no)) (hR (lget h 5 .no)) (hR (lget h 6 .no)) (hI (lget h 7 .no)) (hB (lget h' 0 .no))).trans rfl
noncomputable def T81a {α : Type} (c132a : Int → Bool → Int → LB → LR → LR → LB → Bool → (Int → Bool → Int → LB → LR → LR → Bool → Option α) → Option α) (c80a : Int → Bool → Int → LB → LR → LR → Int → Bool → (Bool → Option α) → Option α) (K : (LB → Bool → Option α)) (x0 : Int) (x1 : Bool) (x2 : Int) (x3 : LB) (x4 x5 : LR) (x6 : LB) (x7 : Bool) : Option α :=
  (c132a x0 x1 x2 x3 x4 x5 x6 x7 (fun y0 y1 y2 y3 y4 y5 y6 => (c80a y0 y1 y2 y3 y4 y5 (3 : Int) y6 (fun y7 => (K y3 y7)))))
noncomputable def f81a {α : Type} (k : Nat) (x0 : Int) (x1 : Bool) (x2 : Int) (x3 : LB) (x4 x5 : LR) (x6 : LB) (x7 : Bool) (K : (LB → Bool → Option α)) : Option α := T81a (f132a k) (f80a k) K x0 x1 x2 x3 x4 x5 x6 x7
noncomputable def W81a (F : Int → Bool → Int → LB → LR → LR → LB → Bool → (LB → Bool → OR) → OR) : Spec := mkSpec [(.c (.p 0 0)), (.agg [(.i i6), .b, (.i i6), .s, (.l 83 vw), (.l 9 vw)]), (.c .s)] [(.box [(.c .b)])] fun h h' K => F (hI (lget h 1 .no)) (hB (lget h 2 .no)) (hI (lget h 3 .no)) (hS (lget h 4 .no)) (hR (lget h 5 .no)) (hR (lget h 6 .no)) (hS (lget h 7 .no)) (hB (lget h' 0 .no)) (fun y0 y1 => K (.ok (AV.s y0) [(AObj.box [(AV.b y1)])]))
theorem run81a (c132a : Int → Bool → Int → LB → LR → LR → LB → Bool → (Int → Bool → Int → LB → LR → LR → Bool → OR) → OR) (c80a : Int → Bool → Int → LB → LR → LR → Int → Bool → (Bool → OR) → OR) (jp : JP) (k : Nat) (K : Res → OR) (x0 : Int) (x1 : Bool) (x2 : Int) (x3 : LB) (x4 x5 : LR) (x6 : LB) (x7 : Bool) : runF Tryz.prog Gl (rhoL [(132, W132a c132a), (80, W80a c80a)]) (loopN k) jp Tryz.f81 [(AV.ptr 0 0), (AV.agg [(ai x0), (AV.b x1), (ai x2), (AV.s x3), (AV.lst 83 x4 vw), (AV.lst 9 x5 vw)]), (AV.s x6)] [(AObj.box [(AV.b x7)])] K = T81a c132a c80a (fun y0 y1 => K (.ok (AV.s y0) [(AObj.box [(AV.b y1)])])) x0 x1 x2 x3 x4 x5 x6 x7 := by kernel_rfl
theorem ok81a (k : Nat) : SpecOK Tryz.prog Gl (W81a (f81a k)) 81 :=
  mk_ok' (ρ := (rhoL [(132, W132a (f132a k)), (80, W80a (f80a k))])) (rhoL_ok (forall_cons (ok132a k) (forall_cons (ok80a k) forall_nil))) Tryz_mixed (g := 81) (fn := Tryz.f81) (by kernel_rfl) (by kernel_rfl) k fun h h' K => (run81a (f132a k) (f80a k) jpId k K (hI (lget h 1 .no)) (hB (lget h 2 .no)) (hI (lget h 3 .no)) (hS (lget h 4 .no)) (hR (lget h 5 .no)) (hR (lget h 6 .no)) (hS (lget h 7 .no)) (hB (lget h' 0 .no))).trans rfl
noncomputable def T82a {α : Type} (c132a : Int → Bool → Int → LB → LR → LR → LB → Bool → (Int → Bool → Int → LB → LR → LR → Bool → Option α) → Option α) (c80a : Int → Bool → Int → LB → LR → LR → Int → Bool → (Bool → Option α) → Option α) (K : (Int → Bool → Option α)) (x0 : Int) (x1 : Bool) (x2 : Int) (x3 : LB) (x4 x5 : LR) (x6 : LB) (x7 : Bool) : Option α :=
  (c132a x0 x1 x2 x3 x4 x5 x6 x7 (fun y0 y1 y2 y3 y4 y5 y6 => (c80a y0 y1 y2 y3 y4 y5 (2 : Int) y6 (fun y7 => (K y2 y7)))))
noncomputable def f82a {α : Type} (k : Nat) (x0 : Int) (x1 : Bool) (x2 : Int) (x3 : LB) (x4 x5 : LR) (x6 : LB) (x7 : Bool) (K : (Int → Bool → Option α)) : Option α := T82a (f132a k) (f80a k) K x0 x1 x2 x3 x4 x5 x6 x7
noncomputable def W82a (F : Int → Bool → Int → LB → LR → LR → LB → Bool → (Int → Bool → OR) → OR) : Spec := mkSpec [(.c (.p 0 0)), (.agg [(.i i6), .b, (.i i6), .s, (.l 83 vw), (.l 9 vw)]), (.c .s)] [(.box [(.c .b)])] fun h h' K => F (hI (lget h 1 .no)) (hB (lget h 2 .no)) (hI (lget h 3 .no)) (hS (lget h 4 .no)) (hR (lget h 5 .no)) (hR (lget h 6 .no)) (hS (lget h 7 .no)) (hB (lget h' 0 .no)) (fun y0 y1 => K (.ok (ai y0) [(AObj.box [(AV.b y1)])]))
theorem run82a (c132a : Int → Bool → Int → LB → LR → LR → LB → Bool → (Int → Bool → Int → LB → LR → LR → Bool → OR) → OR) (c80a : Int → Bool → Int → LB → LR → LR → Int → Bool → (Bool → OR) → OR) (jp : JP) (k : Nat) (K : Res → OR) (x0 : Int) (x1 : Bool) (x2 : Int) (x3 : LB) (x4 x5 : LR) (x6 : LB) (x7 : Bool) : runF Tryz.prog Gl (rhoL [(132, W132a c132a), (80, W80a c80a)]) (loopN k) jp Tryz.f82 [(AV.ptr 0 0), (AV.agg [(ai x0), (AV.b x1), (ai x2), (AV.s x3), (AV.lst 83 x4 vw), (AV.lst 9 x5 vw)]), (AV.s x6)] [(AObj.box [(AV.b x7)])] K = T82a c132a c80a (fun y0 y1 => K (.ok (ai y0) [(AObj.box [(AV.b y1)])])) x0 x1 x2 x3 x4 x5 x6 x7 := by kernel_rfl
theorem ok82a (k : Nat) : SpecOK Tryz.prog Gl (W82a (f82a k)) 82 :=
  mk_ok' (ρ := (rhoL [(132, W132a (f132a k)), (80, W80a (f80a k))])) (rhoL_ok (forall_cons (ok132a k) (forall_cons (ok80a k) forall_nil))) Tryz_mixed (g := 82) (fn := Tryz.f82) (by kernel_rfl) (by kernel_rfl) k fun h h' K => (run82a (f132a k) (f80a k) jpId k K (hI (lget h 1 .no)) (hB (lget h 2 .no)) (hI (lget h 3 .no)) (hS (lget h 4 .no)) (hR (lget h 5 .no)) (hR (lget h 6 .no)) (hS (lget h 7 .no)) (hB (lget h' 0 .no))).trans rfl
noncomputable def T130a {α : Type} (c132a : Int → Bool → Int → LB → LR → LR → LB → Bool → (Int → Bool → Int → LB → LR → LR → Bool → Option α) → Option α) (c80a : Int → Bool → Int → LB → LR → LR → Int → Bool → (Bool → Option α) → Option α) (K : (LR → Bool → Option α)) (x0 : Int) (x1 : Bool) (x2 : Int) (x3 : LB) (x4 x5 : LR) (x6 : LB) (x7 : Bool) : Option α :=
  (c132a x0 x1 x2 x3 x4 x5 x6 x7 (fun y0 y1 y2 y3 y4 y5 y6 => (c80a y0 y1 y2 y3 y4 y5 (4 : Int) y6 (fun y7 => (K y4 y7)))))
noncomputable def f130a {α : Type} (k : Nat) (x0 : Int) (x1 : Bool) (x2 : Int) (x3 : LB) (x4 x5 : LR) (x6 : LB) (x7 : Bool) (K : (LR → Bool → Option α)) : Option α := T130a (f132a k) (f80a k) K x0 x1 x2 x3 x4 x5 x6 x7
noncomputable def W130a (F : Int → Bool → Int → LB → LR → LR → LB → Bool → (LR → Bool → OR) → OR) : Spec := mkSpec [(.c (.p 0 0)), (.agg [(.i i6), .b, (.i i6), .s, (.l 83 vw), (.l 9 vw)]), (.c .s)] [(.box [(.c .b)])] fun h h' K => F (hI (lget h 1 .no)) (hB (lget h 2 .no)) (hI (lget h 3 .no)) (hS (lget h 4 .no)) (hR (lget h 5 .no)) (hR (lget h 6 .no)) (hS (lget h 7 .no)) (hB (lget h' 0 .no)) (fun y0 y1 => K (.ok (AV.lst 83 y0 vw) [(AObj.box [(AV.b y1)])]))
theorem run130a (c132a : Int → Bool → Int → LB → LR → LR → LB → Bool → (Int → Bool → Int → LB → LR → LR → Bool → OR) → OR) (c80a : Int → Bool → Int → LB → LR → LR → Int → Bool → (Bool → OR) → OR) (jp : JP) (k : Nat) (K : Res → OR) (x0 : Int) (x1 : Bool) (x2 : Int) (x3 : LB) (x4 x5 : LR) (x6 : LB) (x7 : Bool) : runF Tryz.prog Gl (rhoL [(132, W132a c132a), (80, W80a c80a)]) (loopN k) jp Tryz.f130 [(AV.ptr 0 0), (AV.agg [(ai x0), (AV.b x1), (ai x2), (AV.s x3), (AV.lst 83 x4 vw), (AV.lst 9 x5 vw)]), (AV.s x6)] [(AObj.box [(AV.b x7)])] K = T130a c132a c80a (fun y0 y1 => K (.ok (AV.lst 83 y0 vw) [(AObj.box [(AV.b y1)])])) x0 x1 x2 x3 x4 x5 x6 x7 := by kernel_rfl
theorem ok130a (k : Nat) : SpecOK Tryz.prog Gl (W130a (f130a k)) 130 :=
  mk_ok' (ρ := (rhoL [(132, W132a (f132a k)), (80, W80a (f80a k))])) (rhoL_ok (forall_cons (ok132a k) (forall_cons (ok80a k) forall_nil))) Tryz_mixed (g := 130) (fn := Tryz.f130) (by kernel_rfl) (by kernel_rfl) k fun h h' K => (run130a (f132a k) (f80a k) jpId k K (hI (lget h 1 .no)) (hB (lget h 2 .no)) (hI (lget h 3 .no)) (hS (lget h 4 .no)) (hR (lget h 5 .no)) (hR (lget h 6 .no)) (hS (lget h 7 .no)) (hB (lget h' 0 .no))).trans rfl
noncomputable def T131a {α : Type} (K : (Int → Int → Bool → LB → Bool → Option α)) (x0 : Int) (x1 : Bool) (x2 : Int) (x3 : LB) (x4 x5 : LR) (x6 : Bool) : Option α :=
  (bif (ieq x0 (0 : Int)) then (K (0 : Int) (0 : Int) false ([] : LB) x6) else (bif (ieq x0 (1 : Int)) then (K (2 : Int) (0 : Int) x1 ([] : LB) x6) else (bif (ieq x0 (2 : Int)) then (K (1 : Int) x2 false ([] : LB) x6) else (bif (ieq x0 (3 : Int)) then (K (3 : Int) (0 : Int) false x3 x6) else (K (0 : Int) (0 : Int) false ([] : LB) true)))))
noncomputable def f131a {α : Type} (k : Nat) (x0 : Int) (x1 : Bool) (x2 : Int) (x3 : LB) (x4 x5 : LR) (x6 : Bool) (K : (Int → Int → Bool → LB → Bool → Option α)) : Option α := T131a K x0 x1 x2 x3 x4 x5 x6
noncomputable def W131a (F : Int → Bool → Int → LB → LR → LR → Bool → (Int → Int → Bool → LB → Bool → OR) → OR) : Spec := mkSpec [(.c (.p 0 0)), (.agg [(.i i6), .b, (.i i6), .s, (.l 83 vw), (.l 9 vw)])] [(.box [(.c .b)])] fun h h' K => F (hI (lget h 1 .no)) (hB (lget h 2 .no)) (hI (lget h 3 .no)) (hS (lget h 4 .no)) (hR (lget h 5 .no)) (hR (lget h 6 .no)) (hB (lget h' 0 .no)) (fun y0 y1 y2 y3 y4 => K (.ok (AV.agg [(ai y0), (ai y1), (AV.b y2), (AV.s y3)]) [(AObj.box [(AV.b y4)])]))
theorem run131a (jp : JP) (k : Nat) (K : Res → OR) (x0 : Int) (x1 : Bool) (x2 : Int) (x3 : LB) (x4 x5 : LR) (x6 : Bool) : runF Tryz.prog Gl (rhoL []) (loopN k) jp Tryz.f131 [(AV.ptr 0 0), (AV.agg [(ai x0), (AV.b x1), (ai x2), (AV.s x3), (AV.lst 83 x4 vw), (AV.lst 9 x5 vw)])] [(AObj.box [(AV.b x6)])] K = T131a (fun y0 y1 y2 y3 y4 => K (.ok (AV.agg [(ai y0), (ai y1), (AV.b y2), (AV.s y3)]) [(AObj.box [(AV.b y4)])])) x0 x1 x2 x3 x4 x5 x6 := by kernel_rfl
theorem ok131a (k : Nat) : SpecOK Tryz.prog Gl (W131a (f131a k)) 131 :=
  mk_ok' (ρ := (rhoL [])) (rhoL_ok forall_nil) Tryz_mixed (g := 131) (fn := Tryz.f131) (by kernel_rfl) (by kernel_rfl) k fun h h' K => (run131a jpId k K (hI (lget h 1 .no)) (hB (lget h 2 .no)) (hI (lget h 3 .no)) (hS (lget h 4 .no)) (hR (lget h 5 .no)) (hR (lget h 6 .no)) (hB (lget h' 0 .no))).trans rfl
noncomputable def h79a_1 (s1_19 : LR) (y10 y12 y21 y22 : Int) (y23 : Bool) (y24 : LB) (y33 y34 : Int) (y35 : Bool) (y36 : LB) : LR :=
  (radd s1_19 (((ai y10) :: ((ai y12) :: ((ai y21) :: ((ai y22) :: ((AV.b y23) :: ((AV.s y24) :: ((ai y33) :: ((ai y34) :: ((AV.b y35) :: ((AV.s y36) :: [])))))))))) :: []))
noncomputable def T79al1 {α : Type} (c82a : Int → Bool → Int → LB → LR → LR → LB → Bool → (Int → Bool → Option α) → Option α) (c132a : Int → Bool → Int → LB → LR → LR → LB → Bool → (Int → Bool → Int → LB → LR → LR → Bool → Option α) → Option α) (c131a : Int → Bool → Int → LB → LR → LR → Bool → (Int → Int → Bool → LB → Bool → Option α) → Option α) (r1 : Int → Bool → LR → Option α) (K : (LB → Int → Int → LR → LR → Bool → Option α)) (s0_18 : LR) (x0 : Int) (x1 : Bool) (x2 : Int) (x3 : LB) (x4 x5 : LR) (y0 : LB) (y2 y4 : Int) (y8 : LR) (s1_2 : Int) (s1_3 : Bool) (s1_19 : LR) : Option α :=
  (bif (ilt s1_2 (rlen y8)) then (bif (ile (0 : Int) s1_2) then (bif (ilt s1_2 (rlen y8)) then (c82a (toI (lget (rget y8 s1_2) 0 uk)) (toB (lget (rget y8 s1_2) 1 uk)) (toI (lget (rget y8 s1_2) 2 uk)) (toS (lget (rget y8 s1_2) 3 uk)) (toR (lget (rget y8 s1_2) 4 uk)) (toR (lget (rget y8 s1_2) 5 uk)) ([99, 111, 108] : LB) s1_3 (fun y10 y11 => (c82a (toI (lget (rget y8 s1_2) 0 uk)) (toB (lget (rget y8 s1_2) 1 uk)) (toI (lget (rget y8 s1_2) 2 uk)) (toS (lget (rget y8 s1_2) 3 uk)) (toR (lget (rget y8 s1_2) 4 uk)) (toR (lget (rget y8 s1_2) 5 uk)) ([110, 117, 108, 108, 115] : LB) y11 (fun y12 y13 => (c132a (toI (lget (rget y8 s1_2) 0 uk)) (toB (lget (rget y8 s1_2) 1 uk)) (toI (lget (rget y8 s1_2) 2 uk)) (toS (lget (rget y8 s1_2) 3 uk)) (toR (lget (rget y8 s1_2) 4 uk)) (toR (lget (rget y8 s1_2) 5 uk)) ([109, 105, 110] : LB) y13 (fun y14 y15 y16 y17 y18 y19 y20 => (c131a y14 y15 y16 y17 y18 y19 y20 (fun y21 y22 y23 y24 y25 => (c132a (toI (lget (rget y8 s1_2) 0 uk)) (toB (lget (rget y8 s1_2) 1 uk)) (toI (lget (rget y8 s1_2) 2 uk)) (toS (lget (rget y8 s1_2) 3 uk)) (toR (lget (rget y8 s1_2) 4 uk)) (toR (lget (rget y8 s1_2) 5 uk)) ([109, 97, 120] : LB) y25 (fun y26 y27 y28 y29 y30 y31 y32 => (c131a y26 y27 y28 y29 y30 y31 y32 (fun y33 y34 y35 y36 y37 => (bif (room ((List.length s1_19) + 1) 96) then (r1 (wadd i6 s1_2 (1 : Int)) y37 (h79a_1 s1_19 y10 y12 y21 y22 y23 y24 y33 y34 y35 y36)) else none))))))))))))) else none) else none) else (K y0 y2 y4 s0_18 s1_19 s1_3))
noncomputable def T79al0 {α : Type} (c131a : Int → Bool → Int → LB → LR → LR → Bool → (Int → Int → Bool → LB → Bool → Option α) → Option α) (c130a : Int → Bool → Int → LB → LR → LR → LB → Bool → (LR → Bool → Option α) → Option α) (l1 : LR → Int → Bool → Int → LB → LR → LR → LB → Int → Int → LR → Int → Bool → LR → Option α) (r0 : Int → Bool → LR → Option α) (K : (LB → Int → Int → LR → LR → Bool → Option α)) (x0 : Int) (x1 : Bool) (x2 : Int) (x3 : LB) (x4 x5 : LR) (y0 : LB) (y2 y4 : Int) (y6 : LR) (s0_2 : Int) (s0_3 : Bool) (s0_18 : LR) : Option α :=
  (bif (ilt s0_2 (rlen y6)) then (bif (ile (0 : Int) s0_2) then (bif (ilt s0_2 (rlen y6)) then (c131a (toI (lget (rget y6 s0_2) 0 uk)) (toB (lget (rget y6 s0_2) 1 uk)) (toI (lget (rget y6 s0_2) 2 uk)) (toS (lget (rget y6 s0_2) 3 uk)) (toR (lget (rget y6 s0_2) 4 uk)) (toR (lget (rget y6 s0_2) 5 uk)) s0_3 (fun y8 y9 y10 y11 y12 => (bif (room ((List.length s0_18) + 1) 40) then (r0 (wadd i6 s0_2 (1 : Int)) y12 (radd s0_18 (((ai y8) :: ((ai y9) :: ((AV.b y10) :: ((AV.s y11) :: [])))) :: []))) else none))) else none) else none) else (c130a x0 x1 x2 x3 x4 x5 ([115, 116, 97, 116, 115] : LB) s0_3 (fun y8 y9 => (l1 s0_18 x0 x1 x2 x3 x4 x5 y0 y2 y4 y8 (0 : Int) y9 []))))
noncomputable def T79a {α : Type} (c81a : Int → Bool → Int → LB → LR → LR → LB → Bool → (LB → Bool → Option α) → Option α) (c82a : Int → Bool → Int → LB → LR → LR → LB → Bool → (Int → Bool → Option α) → Option α) (c130a : Int → Bool → Int → LB → LR → LR → LB → Bool → (LR → Bool → Option α) → Option α) (l0 : Int → Bool → Int → LB → LR → LR → LB → Int → Int → LR → Int → Bool → LR → Option α) (K : (LB → Int → Int → LR → LR → Bool → Option α)) (x0 : Int) (x1 : Bool) (x2 : Int) (x3 : LB) (x4 x5 : LR) (x6 : Bool) : Option α :=
  (c81a x0 x1 x2 x3 x4 x5 ([112, 97, 116, 104] : LB) x6 (fun y0 y1 => (c82a x0 x1 x2 x3 x4 x5 ([114, 111, 119, 115] : LB) y1 (fun y2 y3 => (c82a x0 x1 x2 x3 x4 x5 ([115, 112, 101, 99] : LB) y3 (fun y4 y5 => (c130a x0 x1 x2 x3 x4 x5 ([112, 97, 114, 116] : LB) y5 (fun y6 y7 => (l0 x0 x1 x2 x3 x4 x5 y0 y2 y4 y6 (0 : Int) y7 [])))))))))
noncomputable def L79al1 {α : Type} (k : Nat) (K : (LB → Int → Int → LR → LR → Bool → Option α)) (s0_18 : LR) (x0 : Int) (x1 : Bool) (x2 : Int) (x3 : LB) (x4 x5 : LR) (y0 : LB) (y2 y4 : Int) (y8 : LR) : Nat → Int → Bool → LR → Option α
  | 0, _, _, _ => none
  | n + 1, s1_2, s1_3, s1_19 => T79al1 (f82a k) (f132a k) (f131a k) (fun s1_2 s1_3 s1_19 => L79al1 k K s0_18 x0 x1 x2 x3 x4 x5 y0 y2 y4 y8 n s1_2 s1_3 s1_19) K s0_18 x0 x1 x2 x3 x4 x5 y0 y2 y4 y8 s1_2 s1_3 s1_19
noncomputable def L79al0 {α : Type} (k : Nat) (K : (LB → Int → Int → LR → LR → Bool → Option α)) (x0 : Int) (x1 : Bool) (x2 : Int) (x3 : LB) (x4 x5 : LR) (y0 : LB) (y2 y4 : Int) (y6 : LR) : Nat → Int → Bool → LR → Option α
  | 0, _, _, _ => none
  | n + 1, s0_2, s0_3, s0_18 => T79al0 (f131a k) (f130a k) (fun s0_18 x0 x1 x2 x3 x4 x5 y0 y2 y4 y8 s1_2 s1_3 s1_19 => (L79al1 k K s0_18 x0 x1 x2 x3 x4 x5 y0 y2 y4 y8 k) s1_2 s1_3 s1_19) (fun s0_2 s0_3 s0_18 => L79al0 k K x0 x1 x2 x3 x4 x5 y0 y2 y4 y6 n s0_2 s0_3 s0_18) K x0 x1 x2 x3 x4 x5 y0 y2 y4 y6 s0_2 s0_3 s0_18
noncomputable def f79a {α : Type} (k : Nat) (x0 : Int) (x1 : Bool) (x2 : Int) (x3 : LB) (x4 x5 : LR) (x6 : Bool) (K : (LB → Int → Int → LR → LR → Bool → Option α)) : Option α := T79a (f81a k) (f82a k) (f130a k) (fun x0 x1 x2 x3 x4 x5 y0 y2 y4 y6 s0_2 s0_3 s0_18 => (L79al0 k K x0 x1 x2 x3 x4 x5 y0 y2 y4 y6 k) s0_2 s0_3 s0_18) K x0 x1 x2 x3 x4 x5 x6
noncomputable def W79a (F : Int → Bool → Int → LB → LR → LR → Bool → (LB → Int → Int → LR → LR → Bool → OR) → OR) : Spec := mkSpec [(.c (.p 0 0)), (.agg [(.i i6), .b, (.i i6), .s, (.l 83 vw), (.l 9 vw)])] [(.box [(.c .b)])] fun h h' K => F (hI (lget h 1 .no)) (hB (lget h 2 .no)) (hI (lget h 3 .no)) (hS (lget h 4 .no)) (hR (lget h 5 .no)) (hR (lget h 6 .no)) (hB (lget h' 0 .no)) (fun y0 y1 y2 y3 y4 y5 => K (.ok (AV.agg [(AV.s y0), (ai y1), (ai y2), (AV.lst 61 y3 vw), (AV.lst 63 y4 vw)]) [(AObj.box [(AV.b y5)])]))
noncomputable def R79al1 (ρ : FuncId → Fn) (jp : JP) (k : Nat) (K : Res → OR) (s0_18 : LR) (x0 : Int) (x1 : Bool) (x2 : Int) (x3 : LB) (x4 x5 : LR) (y0 : LB) (y2 y4 : Int) (y8 : LR) (n : Nat) (s1_2 : Int) (s1_3 : Bool) (s1_19 : LR) : OR :=
  atLoop Tryz.prog Gl ρ (loopN k) jp Tryz.f79 1 K [1, 1, 1, 0, 1, 0] [] n 41 [(AV.ptr 0 0), uk, uk, uk, (AV.ptr 2 0), (AV.ptr 13 0), uk, uk, uk, uk, uk, uk, uk, uk, uk, uk, uk, uk, uk, uk, uk, uk, uk, uk, uk, uk, uk, uk, uk, uk, uk, uk, uk, uk, uk, uk, uk, uk, uk, (AV.lst 83 y8 vw), (ai (rlen y8)), (ai s1_2), uk, uk, uk, uk, uk, uk, uk, uk, uk, uk, uk, uk, uk, uk, uk, uk, uk, uk, uk, uk, uk, uk, uk, uk, uk, uk, uk] [(Prod.mk 0 (AObj.box [(AV.b s1_3)])), (Prod.mk 1 (AObj.box [(ai x0), (AV.b x1), (ai x2), (AV.s x3), (AV.lst 83 x4 vw), (AV.lst 9 x5 vw)])), (Prod.mk 2 (AObj.box [(AV.s ([] : LB)), (ai (0 : Int)), (ai (0 : Int)), (AV.lst 61 [] (Mark.tk (Tok.ce 2 3) 0)), (AV.lst 63 [] (Mark.tk (Tok.ce 2 4) 0))])), (Prod.mk 13 (AObj.box [(AV.s y0), (ai y2), (ai y4), (AV.lst 61 s0_18 (Mark.tk (Tok.ce 13 3) 0)), (AV.lst 63 s1_19 (Mark.tk (Tok.ce 13 4) 0))]))] []
noncomputable def R79al0 (ρ : FuncId → Fn) (jp : JP) (k : Nat) (K : Res → OR) (x0 : Int) (x1 : Bool) (x2 : Int) (x3 : LB) (x4 x5 : LR) (y0 : LB) (y2 y4 : Int) (y6 : LR) (n : Nat) (s0_2 : Int) (s0_3 : Bool) (s0_18 : LR) : OR :=
  atLoop Tryz.prog Gl ρ (loopN k) jp Tryz.f79 1 K [1, 1, 0, 1, 0] [] n 20 [(AV.ptr 0 0), uk, uk, (AV.ptr 1 0), (AV.ptr 2 0), (AV.ptr 13 0), uk, uk, uk, uk, uk, uk, uk, uk, uk, uk, uk, uk, uk, uk, uk, uk, (AV.lst 83 y6 vw), (ai (rlen y6)), (ai s0_2), uk, uk, uk, uk, uk, uk, uk, uk, uk, uk, uk, uk, uk, uk, uk, uk, uk, uk, uk, uk, uk, uk, uk, uk, uk, uk, uk, uk, uk, uk, uk, uk, uk, uk, uk, uk, uk, uk, uk, uk, uk, uk, uk, uk] [(Prod.mk 0 (AObj.box [(AV.b s0_3)])), (Prod.mk 1 (AObj.box [(ai x0), (AV.b x1), (ai x2), (AV.s x3), (AV.lst 83 x4 vw), (AV.lst 9 x5 vw)])), (Prod.mk 2 (AObj.box [(AV.s ([] : LB)), (ai (0 : Int)), (ai (0 : Int)), (AV.lst 61 [] (Mark.tk (Tok.ce 2 3) 0)), (AV.lst 63 [] (Mark.tk (Tok.ce 2 4) 0))])), (Prod.mk 13 (AObj.box [(AV.s y0), (ai y2), (ai y4), (AV.lst 61 s0_18 (Mark.tk (Tok.ce 13 3) 0)), (AV.lst 63 [] (Mark.tk (Tok.ce 13 4) 0))]))] []
theorem step79al1 (c81a : Int → Bool → Int → LB → LR → LR → LB → Bool → (LB → Bool → OR) → OR) (c82a : Int → Bool → Int → LB → LR → LR → LB → Bool → (Int → Bool → OR) → OR) (c130a : Int → Bool → Int → LB → LR → LR → LB → Bool → (LR → Bool → OR) → OR) (c132a : Int → Bool → Int → LB → LR → LR → LB → Bool → (Int → Bool → Int → LB → LR → LR → Bool → OR) → OR) (c131a : Int → Bool → Int → LB → LR → LR → Bool → (Int → Int → Bool → LB → Bool → OR) → OR) (jp : JP) (k : Nat) (K : Res → OR) (s0_18 : LR) (x0 : Int) (x1 : Bool) (x2 : Int) (x3 : LB) (x4 x5 : LR) (y0 : LB) (y2 y4 : Int) (y8 : LR) (n : Nat) (s1_2 : Int) (s1_3 : Bool) (s1_19 : LR) : R79al1 (rhoL [(81, W81a c81a), (82, W82a c82a), (130, W130a c130a), (132, W132a c132a), (131, W131a c131a)]) jp k K s0_18 x0 x1 x2 x3 x4 x5 y0 y2 y4 y8 (n + 1) s1_2 s1_3 s1_19 = T79al1 c82a c132a c131a (fun s1_2 s1_3 s1_19 => R79al1 (rhoL [(81, W81a c81a), (82, W82a c82a), (130, W130a c130a), (132, W132a c132a), (131, W131a c131a)]) jp k K s0_18 x0 x1 x2 x3 x4 x5 y0 y2 y4 y8 n s1_2 s1_3 s1_19) (fun y0 y1 y2 y3 y4 y5 => K (.ok (AV.agg [(AV.s y0), (ai y1), (ai y2), (AV.lst 61 y3 vw), (AV.lst 63 y4 vw)]) [(AObj.box [(AV.b y5)])])) s0_18 x0 x1 x2 x3 x4 x5 y0 y2 y4 y8 s1_2 s1_3 s1_19 := by kernel_rfl
theorem step79al0 (c81a : Int → Bool → Int → LB → LR → LR → LB → Bool → (LB → Bool → OR) → OR) (c82a : Int → Bool → Int → LB → LR → LR → LB → Bool → (Int → Bool → OR) → OR) (c130a : Int → Bool → Int → LB → LR → LR → LB → Bool → (LR → Bool → OR) → OR) (c132a : Int → Bool → Int → LB → LR → LR → LB → Bool → (Int → Bool → Int → LB → LR → LR → Bool → OR) → OR) (c131a : Int → Bool → Int → LB → LR → LR → Bool → (Int → Int → Bool → LB → Bool → OR) → OR) (jp : JP) (k : Nat) (K : Res → OR) (x0 : Int) (x1 : Bool) (x2 : Int) (x3 : LB) (x4 x5 : LR) (y0 : LB) (y2 y4 : Int) (y6 : LR) (n : Nat) (s0_2 : Int) (s0_3 : Bool) (s0_18 : LR) : R79al0 (rhoL [(81, W81a c81a), (82, W82a c82a), (130, W130a c130a), (132, W132a c132a), (131, W131a c131a)]) jp k K x0 x1 x2 x3 x4 x5 y0 y2 y4 y6 (n + 1) s0_2 s0_3 s0_18 = T79al0 c131a c130a (fun s0_18 x0 x1 x2 x3 x4 x5 y0 y2 y4 y8 s1_2 s1_3 s1_19 => R79al1 (rhoL [(81, W81a c81a), (82, W82a c82a), (130, W130a c130a), (132, W132a c132a), (131, W131a c131a)]) jp k K s0_18 x0 x1 x2 x3 x4 x5 y0 y2 y4 y8 k s1_2 s1_3 s1_19) (fun s0_2 s0_3 s0_18 => R79al0 (rhoL [(81, W81a c81a), (82, W82a c82a), (130, W130a c130a), (132, W132a c132a), (131, W131a c131a)]) jp k K x0 x1 x2 x3 x4 x5 y0 y2 y4 y6 n s0_2 s0_3 s0_18) (fun y0 y1 y2 y3 y4 y5 => K (.ok (AV.agg [(AV.s y0), (ai y1), (ai y2), (AV.lst 61 y3 vw), (AV.lst 63 y4 vw)]) [(AObj.box [(AV.b y5)])])) x0 x1 x2 x3 x4 x5 y0 y2 y4 y6 s0_2 s0_3 s0_18 := by kernel_rfl
theorem loop79al1 (k : Nat) (K : Res → OR) (s0_18 : LR) (x0 : Int) (x1 : Bool) (x2 : Int) (x3 : LB) (x4 x5 : LR) (y0 : LB) (y2 y4 : Int) (y8 : LR) : ∀ (n : Nat) (s1_2 : Int) (s1_3 : Bool) (s1_19 : LR), R79al1 (rhoL [(81, W81a (f81a k)), (82, W82a (f82a k)), (130, W130a (f130a k)), (132, W132a (f132a k)), (131, W131a (f131a k))]) jpId k K s0_18 x0 x1 x2 x3 x4 x5 y0 y2 y4 y8 n s1_2 s1_3 s1_19 = L79al1 k (fun y0 y1 y2 y3 y4 y5 => K (.ok (AV.agg [(AV.s y0), (ai y1), (ai y2), (AV.lst 61 y3 vw), (AV.lst 63 y4 vw)]) [(AObj.box [(AV.b y5)])])) s0_18 x0 x1 x2 x3 x4 x5 y0 y2 y4 y8 n s1_2 s1_3 s1_19 := by
  intro n
  induction n generalizing s0_18 x0 x1 x2 x3 x4 x5 y0 y2 y4 y8 with
  | zero => intro s1_2 s1_3 s1_19; kernel_rfl
  | succ n ih =>
    intro s1_2 s1_3 s1_19
    rw [step79al1 (f81a k) (f82a k) (f130a k) (f132a k) (f131a k) jpId k K]
    simp only [ih]
    kernel_rfl
theorem loop79al0 (k : Nat) (K : Res → OR) (x0 : Int) (x1 : Bool) (x2 : Int) (x3 : LB) (x4 x5 : LR) (y0 : LB) (y2 y4 : Int) (y6 : LR) : ∀ (n : Nat) (s0_2 : Int) (s0_3 : Bool) (s0_18 : LR), R79al0 (rhoL [(81, W81a (f81a k)), (82, W82a (f82a k)), (130, W130a (f130a k)), (132, W132a (f132a k)), (131, W131a (f131a k))]) jpId k K x0 x1 x2 x3 x4 x5 y0 y2 y4 y6 n s0_2 s0_3 s0_18 = L79al0 k (fun y0 y1 y2 y3 y4 y5 => K (.ok (AV.agg [(AV.s y0), (ai y1), (ai y2), (AV.lst 61 y3 vw), (AV.lst 63 y4 vw)]) [(AObj.box [(AV.b y5)])])) x0 x1 x2 x3 x4 x5 y0 y2 y4 y6 n s0_2 s0_3 s0_18 := by
  intro n
  induction n generalizing x0 x1 x2 x3 x4 x5 y0 y2 y4 y6 with
  | zero => intro s0_2 s0_3 s0_18; kernel_rfl
  | succ n ih =>
    intro s0_2 s0_3 s0_18
    rw [step79al0 (f81a k) (f82a k) (f130a k) (f132a k) (f131a k) jpId k K]
    simp only [loop79al1 k K, ih]
    kernel_rfl
theorem run79a (c81a : Int → Bool → Int → LB → LR → LR → LB → Bool → (LB → Bool → OR) → OR) (c82a : Int → Bool → Int → LB → LR → LR → LB → Bool → (Int → Bool → OR) → OR) (c130a : Int → Bool → Int → LB → LR → LR → LB → Bool → (LR → Bool → OR) → OR) (c132a : Int → Bool → Int → LB → LR → LR → LB → Bool → (Int → Bool → Int → LB → LR → LR → Bool → OR) → OR) (c131a : Int → Bool → Int → LB → LR → LR → Bool → (Int → Int → Bool → LB → Bool → OR) → OR) (jp : JP) (k : Nat) (K : Res → OR) (x0 : Int) (x1 : Bool) (x2 : Int) (x3 : LB) (x4 x5 : LR) (x6 : Bool) : runF Tryz.prog Gl (rhoL [(81, W81a c81a), (82, W82a c82a), (130, W130a c130a), (132, W132a c132a), (131, W131a c131a)]) (loopN k) jp Tryz.f79 [(AV.ptr 0 0), (AV.agg [(ai x0), (AV.b x1), (ai x2), (AV.s x3), (AV.lst 83 x4 vw), (AV.lst 9 x5 vw)])] [(AObj.box [(AV.b x6)])] K = T79a c81a c82a c130a (fun x0 x1 x2 x3 x4 x5 y0 y2 y4 y6 s0_2 s0_3 s0_18 => R79al0 (rhoL [(81, W81a c81a), (82, W82a c82a), (130, W130a c130a), (132, W132a c132a), (131, W131a c131a)]) jp k K x0 x1 x2 x3 x4 x5 y0 y2 y4 y6 k s0_2 s0_3 s0_18) (fun y0 y1 y2 y3 y4 y5 => K (.ok (AV.agg [(AV.s y0), (ai y1), (ai y2), (AV.lst 61 y3 vw), (AV.lst 63 y4 vw)]) [(AObj.box [(AV.b y5)])])) x0 x1 x2 x3 x4 x5 x6 := by kernel_rfl
theorem ok79a (k : Nat) : SpecOK Tryz.prog Gl (W79a (f79a k)) 79 :=
  mk_ok' (ρ := (rhoL [(81, W81a (f81a k)), (82, W82a (f82a k)), (130, W130a (f130a k)), (132, W132a (f132a k)), (131, W131a (f131a k))])) (rhoL_ok (forall_cons (ok81a k) (forall_cons (ok82a k) (forall_cons (ok130a k) (forall_cons (ok132a k) (forall_cons (ok131a k) forall_nil)))))) Tryz_mixed (g := 79) (fn := Tryz.f79) (by kernel_rfl) (by kernel_rfl) k fun h h' K => (run79a (f81a k) (f82a k) (f130a k) (f132a k) (f131a k) jpId k K (hI (lget h 1 .no)) (hB (lget h 2 .no)) (hI (lget h 3 .no)) (hS (lget h 4 .no)) (hR (lget h 5 .no)) (hR (lget h 6 .no)) (hB (lget h' 0 .no))).trans (by simp only [loop79al0 k K]; rfl)
noncomputable def T83al0 {α : Type} (c82a : Int → Bool → Int → LB → LR → LR → LB → Bool → (Int → Bool → Option α) → Option α) (c81a : Int → Bool → Int → LB → LR → LR → LB → Bool → (LB → Bool → Option α) → Option α) (r0 : Int → Bool → LR → Option α) (K : (Int → LR → Int → Bool → Option α)) (x0 : Int) (x1 : Bool) (x2 : Int) (x3 : LB) (x4 x5 : LR) (y0 y2 : Int) (y4 : LR) (s0_2 : Int) (s0_3 : Bool) (s0_14 : LR) : Option α :=
  (bif (ilt s0_2 (rlen y4)) then (bif (ile (0 : Int) s0_2) then (bif (ilt s0_2 (rlen y4)) then (c82a (toI (lget (rget y4 s0_2) 0 uk)) (toB (lget (rget y4 s0_2) 1 uk)) (toI (lget (rget y4 s0_2) 2 uk)) (toS (lget (rget y4 s0_2) 3 uk)) (toR (lget (rget y4 s0_2) 4 uk)) (toR (lget (rget y4 s0_2) 5 uk)) ([105, 100] : LB) s0_3 (fun y6 y7 => (c81a (toI (lget (rget y4 s0_2) 0 uk)) (toB (lget (rget y4 s0_2) 1 uk)) (toI (lget (rget y4 s0_2) 2 uk)) (toS (lget (rget y4 s0_2) 3 uk)) (toR (lget (rget y4 s0_2) 4 uk)) (toR (lget (rget y4 s0_2) 5 uk)) ([110, 97, 109, 101] : LB) y7 (fun y8 y9 => (c82a (toI (lget (rget y4 s0_2) 0 uk)) (toB (lget (rget y4 s0_2) 1 uk)) (toI (lget (rget y4 s0_2) 2 uk)) (toS (lget (rget y4 s0_2) 3 uk)) (toR (lget (rget y4 s0_2) 4 uk)) (toR (lget (rget y4 s0_2) 5 uk)) ([107, 105, 110, 100] : LB) y9 (fun y10 y11 => (bif (room ((List.length s0_14) + 1) 32) then (r0 (wadd i6 s0_2 (1 : Int)) y11 (radd s0_14 (((ai y6) :: ((AV.s y8) :: ((ai y10) :: []))) :: []))) else none))))))) else none) else none) else (K y0 s0_14 y2 s0_3))
noncomputable def T83a {α : Type} (c82a : Int → Bool → Int → LB → LR → LR → LB → Bool → (Int → Bool → Option α) → Option α) (c130a : Int → Bool → Int → LB → LR → LR → LB → Bool → (LR → Bool → Option α) → Option α) (l0 : Int → Bool → Int → LB → LR → LR → Int → Int → LR → Int → Bool → LR → Option α) (K : (Int → LR → Int → Bool → Option α)) (x0 : Int) (x1 : Bool) (x2 : Int) (x3 : LB) (x4 x5 : LR) (x6 : Bool) : Option α :=
  (c82a x0 x1 x2 x3 x4 x5 ([105, 100] : LB) x6 (fun y0 y1 => (c82a x0 x1 x2 x3 x4 x5 ([110, 101, 120, 116] : LB) y1 (fun y2 y3 => (c130a x0 x1 x2 x3 x4 x5 ([99, 111, 108, 117, 109, 110, 115] : LB) y3 (fun y4 y5 => (l0 x0 x1 x2 x3 x4 x5 y0 y2 y4 (0 : Int) y5 [])))))))
noncomputable def L83al0 {α : Type} (k : Nat) (K : (Int → LR → Int → Bool → Option α)) (x0 : Int) (x1 : Bool) (x2 : Int) (x3 : LB) (x4 x5 : LR) (y0 y2 : Int) (y4 : LR) : Nat → Int → Bool → LR → Option α
  | 0, _, _, _ => none
  | n + 1, s0_2, s0_3, s0_14 => T83al0 (f82a k) (f81a k) (fun s0_2 s0_3 s0_14 => L83al0 k K x0 x1 x2 x3 x4 x5 y0 y2 y4 n s0_2 s0_3 s0_14) K x0 x1 x2 x3 x4 x5 y0 y2 y4 s0_2 s0_3 s0_14
noncomputable def f83a {α : Type} (k : Nat) (x0 : Int) (x1 : Bool) (x2 : Int) (x3 : LB) (x4 x5 : LR) (x6 : Bool) (K : (Int → LR → Int → Bool → Option α)) : Option α := T83a (f82a k) (f130a k) (fun x0 x1 x2 x3 x4 x5 y0 y2 y4 s0_2 s0_3 s0_14 => (L83al0 k K x0 x1 x2 x3 x4 x5 y0 y2 y4 k) s0_2 s0_3 s0_14) K x0 x1 x2 x3 x4 x5 x6
noncomputable def W83a (F : Int → Bool → Int → LB → LR → LR → Bool → (Int → LR → Int → Bool → OR) → OR) : Spec := mkSpec [(.c (.p 0 0)), (.agg [(.i i6), .b, (.i i6), .s, (.l 83 vw), (.l 9 vw)])] [(.box [(.c .b)])] fun h h' K => F (hI (lget h 1 .no)) (hB (lget h 2 .no)) (hI (lget h 3 .no)) (hS (lget h 4 .no)) (hR (lget h 5 .no)) (hR (lget h 6 .no)) (hB (lget h' 0 .no)) (fun y0 y1 y2 y3 => K (.ok (AV.agg [(ai y0), (AV.lst 97 y1 vw), (ai y2)]) [(AObj.box [(AV.b y3)])]))
noncomputable def R83al0 (ρ : FuncId → Fn) (jp : JP) (k : Nat) (K : Res → OR) (x0 : Int) (x1 : Bool) (x2 : Int) (x3 : LB) (x4 x5 : LR) (y0 y2 : Int) (y4 : LR) (n : Nat) (s0_2 : Int) (s0_3 : Bool) (s0_14 : LR) : OR :=
  atLoop Tryz.prog Gl ρ (loopN k) jp Tryz.f83 1 K [1, 1, 0, 1, 0] [] n 17 [(AV.ptr 0 0), uk, uk, uk, (AV.ptr 2 0), (AV.ptr 10 0), uk, uk, uk, uk, uk, uk, uk, uk, uk, uk, uk, (AV.lst 83 y4 vw), (ai (rlen y4)), (ai s0_2), uk, uk, uk, uk, uk, uk, uk, uk, uk, uk, uk, uk, uk, uk, uk, uk, uk, uk, uk, uk] [(Prod.mk 0 (AObj.box [(AV.b s0_3)])), (Prod.mk 1 (AObj.box [(ai x0), (AV.b x1), (ai x2), (AV.s x3), (AV.lst 83 x4 vw), (AV.lst 9 x5 vw)])), (Prod.mk 2 (AObj.box [(ai (0 : Int)), (AV.lst 97 [] (Mark.tk (Tok.ce 2 1) 0)), (ai (0 : Int))])), (Prod.mk 10 (AObj.box [(ai y0), (AV.lst 97 s0_14 (Mark.tk (Tok.ce 10 1) 0)), (ai y2)]))] []
theorem step83al0 (c82a : Int → Bool → Int → LB → LR → LR → LB → Bool → (Int → Bool → OR) → OR) (c130a : Int → Bool → Int → LB → LR → LR → LB → Bool → (LR → Bool → OR) → OR) (c81a : Int → Bool → Int → LB → LR → LR → LB → Bool → (LB → Bool → OR) → OR) (jp : JP) (k : Nat) (K : Res → OR) (x0 : Int) (x1 : Bool) (x2 : Int) (x3 : LB) (x4 x5 : LR) (y0 y2 : Int) (y4 : LR) (n : Nat) (s0_2 : Int) (s0_3 : Bool) (s0_14 : LR) : R83al0 (rhoL [(82, W82a c82a), (130, W130a c130a), (81, W81a c81a)]) jp k K x0 x1 x2 x3 x4 x5 y0 y2 y4 (n + 1) s0_2 s0_3 s0_14 = T83al0 c82a c81a (fun s0_2 s0_3 s0_14 => R83al0 (rhoL [(82, W82a c82a), (130, W130a c130a), (81, W81a c81a)]) jp k K x0 x1 x2 x3 x4 x5 y0 y2 y4 n s0_2 s0_3 s0_14) (fun y0 y1 y2 y3 => K (.ok (AV.agg [(ai y0), (AV.lst 97 y1 vw), (ai y2)]) [(AObj.box [(AV.b y3)])])) x0 x1 x2 x3 x4 x5 y0 y2 y4 s0_2 s0_3 s0_14 := by kernel_rfl
theorem loop83al0 (k : Nat) (K : Res → OR) (x0 : Int) (x1 : Bool) (x2 : Int) (x3 : LB) (x4 x5 : LR) (y0 y2 : Int) (y4 : LR) : ∀ (n : Nat) (s0_2 : Int) (s0_3 : Bool) (s0_14 : LR), R83al0 (rhoL [(82, W82a (f82a k)), (130, W130a (f130a k)), (81, W81a (f81a k))]) jpId k K x0 x1 x2 x3 x4 x5 y0 y2 y4 n s0_2 s0_3 s0_14 = L83al0 k (fun y0 y1 y2 y3 => K (.ok (AV.agg [(ai y0), (AV.lst 97 y1 vw), (ai y2)]) [(AObj.box [(AV.b y3)])])) x0 x1 x2 x3 x4 x5 y0 y2 y4 n s0_2 s0_3 s0_14 := by
  intro n
  induction n generalizing x0 x1 x2 x3 x4 x5 y0 y2 y4 with
  | zero => intro s0_2 s0_3 s0_14; kernel_rfl
  | succ n ih =>
    intro s0_2 s0_3 s0_14
    rw [step83al0 (f82a k) (f130a k) (f81a k) jpId k K]
    simp only [ih]
    kernel_rfl
theorem run83a (c82a : Int → Bool → Int → LB → LR → LR → LB → Bool → (Int → Bool → OR) → OR) (c130a : Int → Bool → Int → LB → LR → LR → LB → Bool → (LR → Bool → OR) → OR) (c81a : Int → Bool → Int → LB → LR → LR → LB → Bool → (LB → Bool → OR) → OR) (jp : JP) (k : Nat) (K : Res → OR) (x0 : Int) (x1 : Bool) (x2 : Int) (x3 : LB) (x4 x5 : LR) (x6 : Bool) : runF Tryz.prog Gl (rhoL [(82, W82a c82a), (130, W130a c130a), (81, W81a c81a)]) (loopN k) jp Tryz.f83 [(AV.ptr 0 0), (AV.agg [(ai x0), (AV.b x1), (ai x2), (AV.s x3), (AV.lst 83 x4 vw), (AV.lst 9 x5 vw)])] [(AObj.box [(AV.b x6)])] K = T83a c82a c130a (fun x0 x1 x2 x3 x4 x5 y0 y2 y4 s0_2 s0_3 s0_14 => R83al0 (rhoL [(82, W82a c82a), (130, W130a c130a), (81, W81a c81a)]) jp k K x0 x1 x2 x3 x4 x5 y0 y2 y4 k s0_2 s0_3 s0_14) (fun y0 y1 y2 y3 => K (.ok (AV.agg [(ai y0), (AV.lst 97 y1 vw), (ai y2)]) [(AObj.box [(AV.b y3)])])) x0 x1 x2 x3 x4 x5 x6 := by kernel_rfl
theorem ok83a (k : Nat) : SpecOK Tryz.prog Gl (W83a (f83a k)) 83 :=
  mk_ok' (ρ := (rhoL [(82, W82a (f82a k)), (130, W130a (f130a k)), (81, W81a (f81a k))])) (rhoL_ok (forall_cons (ok82a k) (forall_cons (ok130a k) (forall_cons (ok81a k) forall_nil)))) Tryz_mixed (g := 83) (fn := Tryz.f83) (by kernel_rfl) (by kernel_rfl) k fun h h' K => (run83a (f82a k) (f130a k) (f81a k) jpId k K (hI (lget h 1 .no)) (hB (lget h 2 .no)) (hI (lget h 3 .no)) (hS (lget h 4 .no)) (hR (lget h 5 .no)) (hR (lget h 6 .no)) (hB (lget h' 0 .no))).trans (by simp only [loop83al0 k K]; rfl)
noncomputable def T84al0 {α : Type} (c82a : Int → Bool → Int → LB → LR → LR → LB → Bool → (Int → Bool → Option α) → Option α) (r0 : Int → Bool → LR → Option α) (K : (Int → LR → Bool → Option α)) (x0 : Int) (x1 : Bool) (x2 : Int) (x3 : LB) (x4 x5 : LR) (y0 : Int) (y2 : LR) (s0_2 : Int) (s0_3 : Bool) (s0_13 : LR) : Option α :=
  (bif (ilt s0_2 (rlen y2)) then (bif (ile (0 : Int) s0_2) then (bif (ilt s0_2 (rlen y2)) then (c82a (toI (lget (rget y2 s0_2) 0 uk)) (toB (lget (rget y2 s0_2) 1 uk)) (toI (lget (rget y2 s0_2) 2 uk)) (toS (lget (rget y2 s0_2) 3 uk)) (toR (lget (rget y2 s0_2) 4 uk)) (toR (lget (rget y2 s0_2) 5 uk)) ([115, 111, 117, 114, 99, 101] : LB) s0_3 (fun y4 y5 => (c82a (toI (lget (rget y2 s0_2) 0 uk)) (toB (lget (rget y2 s0_2) 1 uk)) (toI (lget (rget y2 s0_2) 2 uk)) (toS (lget (rget y2 s0_2) 3 uk)) (toR (lget (rget y2 s0_2) 4 uk)) (toR (lget (rget y2 s0_2) 5 uk)) ([116, 114, 97, 110, 115] : LB) y5 (fun y6 y7 => (c82a (toI (lget (rget y2 s0_2) 0 uk)) (toB (lget (rget y2 s0_2) 1 uk)) (toI (lget (rget y2 s0_2) 2 uk)) (toS (lget (rget y2 s0_2) 3 uk)) (toR (lget (rget y2 s0_2) 4 uk)) (toR (lget (rget y2 s0_2) 5 uk)) ([112, 97, 114, 97, 109] : LB) y7 (fun y8 y9 => (bif (room ((List.length s0_13) + 1) 24) then (r0 (wadd i6 s0_2 (1 : Int)) y9 (radd s0_13 (((ai y4) :: ((ai y6) :: ((ai y8) :: []))) :: []))) else none))))))) else none) else none) else (K y0 s0_13 s0_3))
noncomputable def T84a {α : Type} (c82a : Int → Bool → Int → LB → LR → LR → LB → Bool → (Int → Bool → Option α) → Option α) (c130a : Int → Bool → Int → LB → LR → LR → LB → Bool → (LR → Bool → Option α) → Option α) (l0 : Int → Bool → Int → LB → LR → LR → Int → LR → Int → Bool → LR → Option α) (K : (Int → LR → Bool → Option α)) (x0 : Int) (x1 : Bool) (x2 : Int) (x3 : LB) (x4 x5 : LR) (x6 : Bool) : Option α :=
  (c82a x0 x1 x2 x3 x4 x5 ([105, 100] : LB) x6 (fun y0 y1 => (c130a x0 x1 x2 x3 x4 x5 ([102, 105, 101, 108, 100, 115] : LB) y1 (fun y2 y3 => (l0 x0 x1 x2 x3 x4 x5 y0 y2 (0 : Int) y3 [])))))
noncomputable def L84al0 {α : Type} (k : Nat) (K : (Int → LR → Bool → Option α)) (x0 : Int) (x1 : Bool) (x2 : Int) (x3 : LB) (x4 x5 : LR) (y0 : Int) (y2 : LR) : Nat → Int → Bool → LR → Option α
  | 0, _, _, _ => none
  | n + 1, s0_2, s0_3, s0_13 => T84al0 (f82a k) (fun s0_2 s0_3 s0_13 => L84al0 k K x0 x1 x2 x3 x4 x5 y0 y2 n s0_2 s0_3 s0_13) K x0 x1 x2 x3 x4 x5 y0 y2 s0_2 s0_3 s0_13
noncomputable def f84a {α : Type} (k : Nat) (x0 : Int) (x1 : Bool) (x2 : Int) (x3 : LB) (x4 x5 : LR) (x6 : Bool) (K : (Int → LR → Bool → Option α)) : Option α := T84a (f82a k) (f130a k) (fun x0 x1 x2 x3 x4 x5 y0 y2 s0_2 s0_3 s0_13 => (L84al0 k K x0 x1 x2 x3 x4 x5 y0 y2 k) s0_2 s0_3 s0_13) K x0 x1 x2 x3 x4 x5 x6
noncomputable def W84a (F : Int → Bool → Int → LB → LR → LR → Bool → (Int → LR → Bool → OR) → OR) : Spec := mkSpec [(.c (.p 0 0)), (.agg [(.i i6), .b, (.i i6), .s, (.l 83 vw), (.l 9 vw)])] [(.box [(.c .b)])] fun h h' K => F (hI (lget h 1 .no)) (hB (lget h 2 .no)) (hI (lget h 3 .no)) (hS (lget h 4 .no)) (hR (lget h 5 .no)) (hR (lget h 6 .no)) (hB (lget h' 0 .no)) (fun y0 y1 y2 => K (.ok (AV.agg [(ai y0), (AV.lst 59 y1 vw)]) [(AObj.box [(AV.b y2)])]))
noncomputable def R84al0 (ρ : FuncId → Fn) (jp : JP) (k : Nat) (K : Res → OR) (x0 : Int) (x1 : Bool) (x2 : Int) (x3 : LB) (x4 x5 : LR) (y0 : Int) (y2 : LR) (n : Nat) (s0_2 : Int) (s0_3 : Bool) (s0_13 : LR) : OR :=
  atLoop Tryz.prog Gl ρ (loopN k) jp Tryz.f84 1 K [1, 1, 0, 1, 0] [] n 14 [(AV.ptr 0 0), uk, uk, uk, (AV.ptr 2 0), (AV.ptr 7 0), uk, uk, uk, uk, uk, uk, uk, uk, (AV.lst 83 y2 vw), (ai (rlen y2)), (ai s0_2), uk, uk, uk, uk, uk, uk, uk, uk, uk, uk, uk, uk, uk, uk, uk, uk, uk, uk, uk, uk] [(Prod.mk 0 (AObj.box [(AV.b s0_3)])), (Prod.mk 1 (AObj.box [(ai x0), (AV.b x1), (ai x2), (AV.s x3), (AV.lst 83 x4 vw), (AV.lst 9 x5 vw)])), (Prod.mk 2 (AObj.box [(ai (0 : Int)), (AV.lst 59 [] (Mark.tk (Tok.ce 2 1) 0))])), (Prod.mk 7 (AObj.box [(ai y0), (AV.lst 59 s0_13 (Mark.tk (Tok.ce 7 1) 0))]))] []
theorem step84al0 (c82a : Int → Bool → Int → LB → LR → LR → LB → Bool → (Int → Bool → OR) → OR) (c130a : Int → Bool → Int → LB → LR → LR → LB → Bool → (LR → Bool → OR) → OR) (jp : JP) (k : Nat) (K : Res → OR) (x0 : Int) (x1 : Bool) (x2 : Int) (x3 : LB) (x4 x5 : LR) (y0 : Int) (y2 : LR) (n : Nat) (s0_2 : Int) (s0_3 : Bool) (s0_13 : LR) : R84al0 (rhoL [(82, W82a c82a), (130, W130a c130a)]) jp k K x0 x1 x2 x3 x4 x5 y0 y2 (n + 1) s0_2 s0_3 s0_13 = T84al0 c82a (fun s0_2 s0_3 s0_13 => R84al0 (rhoL [(82, W82a c82a), (130, W130a c130a)]) jp k K x0 x1 x2 x3 x4 x5 y0 y2 n s0_2 s0_3 s0_13) (fun y0 y1 y2 => K (.ok (AV.agg [(ai y0), (AV.lst 59 y1 vw)]) [(AObj.box [(AV.b y2)])])) x0 x1 x2 x3 x4 x5 y0 y2 s0_2 s0_3 s0_13 := by kernel_rfl
theorem loop84al0 (k : Nat) (K : Res → OR) (x0 : Int) (x1 : Bool) (x2 : Int) (x3 : LB) (x4 x5 : LR) (y0 : Int) (y2 : LR) : ∀ (n : Nat) (s0_2 : Int) (s0_3 : Bool) (s0_13 : LR), R84al0 (rhoL [(82, W82a (f82a k)), (130, W130a (f130a k))]) jpId k K x0 x1 x2 x3 x4 x5 y0 y2 n s0_2 s0_3 s0_13 = L84al0 k (fun y0 y1 y2 => K (.ok (AV.agg [(ai y0), (AV.lst 59 y1 vw)]) [(AObj.box [(AV.b y2)])])) x0 x1 x2 x3 x4 x5 y0 y2 n s0_2 s0_3 s0_13 := by
  intro n
  induction n generalizing x0 x1 x2 x3 x4 x5 y0 y2 with
  | zero => intro s0_2 s0_3 s0_13; kernel_rfl
  | succ n ih =>
    intro s0_2 s0_3 s0_13
    rw [step84al0 (f82a k) (f130a k) jpId k K]
    simp only [ih]
    kernel_rfl
theorem run84a (c82a : Int → Bool → Int → LB → LR → LR → LB → Bool → (Int → Bool → OR) → OR) (c130a : Int → Bool → Int → LB → LR → LR → LB → Bool → (LR → Bool → OR) → OR) (jp : JP) (k : Nat) (K : Res → OR) (x0 : Int) (x1 : Bool) (x2 : Int) (x3 : LB) (x4 x5 : LR) (x6 : Bool) : runF Tryz.prog Gl (rhoL [(82, W82a c82a), (130, W130a c130a)]) (loopN k) jp Tryz.f84 [(AV.ptr 0 0), (AV.agg [(ai x0), (AV.b x1), (ai x2), (AV.s x3), (AV.lst 83 x4 vw), (AV.lst 9 x5 vw)])] [(AObj.box [(AV.b x6)])] K = T84a c82a c130a (fun x0 x1 x2 x3 x4 x5 y0 y2 s0_2 s0_3 s0_13 => R84al0 (rhoL [(82, W82a c82a), (130, W130a c130a)]) jp k K x0 x1 x2 x3 x4 x5 y0 y2 k s0_2 s0_3 s0_13) (fun y0 y1 y2 => K (.ok (AV.agg [(ai y0), (AV.lst 59 y1 vw)]) [(AObj.box [(AV.b y2)])])) x0 x1 x2 x3 x4 x5 x6 := by kernel_rfl
theorem ok84a (k : Nat) : SpecOK Tryz.prog Gl (W84a (f84a k)) 84 :=
  mk_ok' (ρ := (rhoL [(82, W82a (f82a k)), (130, W130a (f130a k))])) (rhoL_ok (forall_cons (ok82a k) (forall_cons (ok130a k) forall_nil))) Tryz_mixed (g := 84) (fn := Tryz.f84) (by kernel_rfl) (by kernel_rfl) k fun h h' K => (run84a (f82a k) (f130a k) jpId k K (hI (lget h 1 .no)) (hB (lget h 2 .no)) (hI (lget h 3 .no)) (hS (lget h 4 .no)) (hR (lget h 5 .no)) (hR (lget h 6 .no)) (hB (lget h' 0 .no))).trans (by simp only [loop84al0 k K]; rfl)
noncomputable def T46a {α : Type} (c79a : Int → Bool → Int → LB → LR → LR → Bool → (LB → Int → Int → LR → LR → Bool → Option α) → Option α) (c80a : Int → Bool → Int → LB → LR → LR → Int → Bool → (Bool → Option α) → Option α) (c81a : Int → Bool → Int → LB → LR → LR → LB → Bool → (LB → Bool → Option α) → Option α) (c82a : Int → Bool → Int → LB → LR → LR → LB → Bool → (Int → Bool → Option α) → Option α) (c83a : Int → Bool → Int → LB → LR → LR → Bool → (Int → LR → Int → Bool → Option α) → Option α) (c84a : Int → Bool → Int → LB → LR → LR → Bool → (Int → LR → Bool → Option α) → Option α) (K : (Int → LB → Int → Int → LR → LR → LB → LB → LB → Int → Int → LR → Int → Int → LR → LB → Int → Int → Int → Int → Bool → Option α)) (x0 : Int) (x1 : Bool) (x2 : Int) (x3 : LB) (x4 x5 : LR) (x6 : Bool) : Option α :=
  (bif (ine (rlen x5) (1 : Int)) then (K (0 : Int) ([] : LB) (0 : Int) (0 : Int) [] [] ([] : LB) ([] : LB) ([] : LB) (0 : Int) (0 : Int) [] (0 : Int) (0 : Int) [] ([] : LB) (0 : Int) (0 : Int) (0 : Int) (0 : Int) true) else (bif (ilt (0 : Int) (rlen x4)) then (bif (ilt (0 : Int) (rlen x5)) then (bif (seq (toS (lget (rget x5 (0 : Int)) 0 uk)) ([97, 100, 100] : LB)) then (c79a (toI (lget (rget x4 (0 : Int)) 0 uk)) (toB (lget (rget x4 (0 : Int)) 1 uk)) (toI (lget (rget x4 (0 : Int)) 2 uk)) (toS (lget (rget x4 (0 : Int)) 3 uk)) (toR (lget (rget x4 (0 : Int)) 4 uk)) (toR (lget (rget x4 (0 : Int)) 5 uk)) x6 (fun y0 y1 y2 y3 y4 y5 => (K (0 : Int) y0 y1 y2 y3 y4 ([] : LB) ([] : LB) ([] : LB) (0 : Int) (0 : Int) [] (0 : Int) (0 : Int) [] ([] : LB) (0 : Int) (0 : Int) (0 : Int) (0 : Int) y5))) else (bif (seq (toS (lget (rget x5 (0 : Int)) 0 uk)) ([114, 101, 109, 111, 118, 101] : LB)) then (c80a (toI (lget (rget x4 (0 : Int)) 0 uk)) (toB (lget (rget x4 (0 : Int)) 1 uk)) (toI (lget (rget x4 (0 : Int)) 2 uk)) (toS (lget (rget x4 (0 : Int)) 3 uk)) (toR (lget (rget x4 (0 : Int)) 4 uk)) (toR (lget (rget x4 (0 : Int)) 5 uk)) (3 : Int) x6 (fun y0 => (K (1 : Int) ([] : LB) (0 : Int) (0 : Int) [] [] (toS (lget (rget x4 (0 : Int)) 3 uk)) ([] : LB) ([] : LB) (0 : Int) (0 : Int) [] (0 : Int) (0 : Int) [] ([] : LB) (0 : Int) (0 : Int) (0 : Int) (0 : Int) y0))) else (bif (seq (toS (lget (rget x5 (0 : Int)) 0 uk)) ([109, 97, 114, 107] : LB)) then (c81a (toI (lget (rget x4 (0 : Int)) 0 uk)) (toB (lget (rget x4 (0 : Int)) 1 uk)) (toI (lget (rget x4 (0 : Int)) 2 uk)) (toS (lget (rget x4 (0 : Int)) 3 uk)) (toR (lget (rget x4 (0 : Int)) 4 uk)) (toR (lget (rget x4 (0 : Int)) 5 uk)) ([112, 97, 116, 104] : LB) x6 (fun y0 y1 => (c81a (toI (lget (rget x4 (0 : Int)) 0 uk)) (toB (lget (rget x4 (0 : Int)) 1 uk)) (toI (lget (rget x4 (0 : Int)) 2 uk)) (toS (lget (rget x4 (0 : Int)) 3 uk)) (toR (lget (rget x4 (0 : Int)) 4 uk)) (toR (lget (rget x4 (0 : Int)) 5 uk)) ([102, 105, 108, 101] : LB) y1 (fun y2 y3 => (c82a (toI (lget (rget x4 (0 : Int)) 0 uk)) (toB (lget (rget x4 (0 : Int)) 1 uk)) (toI (lget (rget x4 (0 : Int)) 2 uk)) (toS (lget (rget x4 (0 : Int)) 3 uk)) (toR (lget (rget x4 (0 : Int)) 4 uk)) (toR (lget (rget x4 (0 : Int)) 5 uk)) ([114, 111, 119, 115] : LB) y3 (fun y4 y5 => (K (2 : Int) ([] : LB) (0 : Int) (0 : Int) [] [] ([] : LB) y0 y2 y4 (0 : Int) [] (0 : Int) (0 : Int) [] ([] : LB) (0 : Int) (0 : Int) (0 : Int) (0 : Int) y5))))))) else (bif (seq (toS (lget (rget x5 (0 : Int)) 0 uk)) ([115, 99, 104, 101, 109, 97] : LB)) then (c83a (toI (lget (rget x4 (0 : Int)) 0 uk)) (toB (lget (rget x4 (0 : Int)) 1 uk)) (toI (lget (rget x4 (0 : Int)) 2 uk)) (toS (lget (rget x4 (0 : Int)) 3 uk)) (toR (lget (rget x4 (0 : Int)) 4 uk)) (toR (lget (rget x4 (0 : Int)) 5 uk)) x6 (fun y0 y1 y2 y3 => (K (3 : Int) ([] : LB) (0 : Int) (0 : Int) [] [] ([] : LB) ([] : LB) ([] : LB) (0 : Int) y0 y1 y2 (0 : Int) [] ([] : LB) (0 : Int) (0 : Int) (0 : Int) (0 : Int) y3))) else (bif (seq (toS (lget (rget x5 (0 : Int)) 0 uk)) ([115, 112, 101, 99] : LB)) then (c84a (toI (lget (rget x4 (0 : Int)) 0 uk)) (toB (lget (rget x4 (0 : Int)) 1 uk)) (toI (lget (rget x4 (0 : Int)) 2 uk)) (toS (lget (rget x4 (0 : Int)) 3 uk)) (toR (lget (rget x4 (0 : Int)) 4 uk)) (toR (lget (rget x4 (0 : Int)) 5 uk)) x6 (fun y0 y1 y2 => (K (4 : Int) ([] : LB) (0 : Int) (0 : Int) [] [] ([] : LB) ([] : LB) ([] : LB) (0 : Int) (0 : Int) [] (0 : Int) y0 y1 ([] : LB) (0 : Int) (0 : Int) (0 : Int) (0 : Int) y2))) else (bif (seq (toS (lget (rget x5 (0 : Int)) 0 uk)) ([116, 120, 110] : LB)) then (c80a (toI (lget (rget x4 (0 : Int)) 0 uk)) (toB (lget (rget x4 (0 : Int)) 1 uk)) (toI (lget (rget x4 (0 : Int)) 2 uk)) (toS (lget (rget x4 (0 : Int)) 3 uk)) (toR (lget (rget x4 (0 : Int)) 4 uk)) (toR (lget (rget x4 (0 : Int)) 5 uk)) (3 : Int) x6 (fun y0 => (K (5 : Int) ([] : LB) (0 : Int) (0 : Int) [] [] ([] : LB) ([] : LB) ([] : LB) (0 : Int) (0 : Int) [] (0 : Int) (0 : Int) [] (toS (lget (rget x4 (0 : Int)) 3 uk)) (0 : Int) (0 : Int) (0 : Int) (0 : Int) y0))) else (bif (seq (toS (lget (rget x5 (0 : Int)) 0 uk)) ([105, 110, 102, 111] : LB)) then (c82a (toI (lget (rget x4 (0 : Int)) 0 uk)) (toB (lget (rget x4 (0 : Int)) 1 uk)) (toI (lget (rget x4 (0 : Int)) 2 uk)) (toS (lget (rget x4 (0 : Int)) 3 uk)) (toR (lget (rget x4 (0 : Int)) 4 uk)) (toR (lget (rget x4 (0 : Int)) 5 uk)) ([99, 108, 105, 101, 110, 116] : LB) x6 (fun y0 y1 => (c82a (toI (lget (rget x4 (0 : Int)) 0 uk)) (toB (lget (rget x4 (0 : Int)) 1 uk)) (toI (lget (rget x4 (0 : Int)) 2 uk)) (toS (lget (rget x4 (0 : Int)) 3 uk)) (toR (lget (rget x4 (0 : Int)) 4 uk)) (toR (lget (rget x4 (0 : Int)) 5 uk)) ([115, 101, 113] : LB) y1 (fun y2 y3 => (c82a (toI (lget (rget x4 (0 : Int)) 0 uk)) (toB (lget (rget x4 (0 : Int)) 1 uk)) (toI (lget (rget x4 (0 : Int)) 2 uk)) (toS (lget (rget x4 (0 : Int)) 3 uk)) (toR (lget (rget x4 (0 : Int)) 4 uk)) (toR (lget (rget x4 (0 : Int)) 5 uk)) ([111, 112] : LB) y3 (fun y4 y5 => (c82a (toI (lget (rget x4 (0 : Int)) 0 uk)) (toB (lget (rget x4 (0 : Int)) 1 uk)) (toI (lget (rget x4 (0 : Int)) 2 uk)) (toS (lget (rget x4 (0 : Int)) 3 uk)) (toR (lget (rget x4 (0 : Int)) 4 uk)) (toR (lget (rget x4 (0 : Int)) 5 uk)) ([116, 105, 109, 101] : LB) y5 (fun y6 y7 => (K (6 : Int) ([] : LB) (0 : Int) (0 : Int) [] [] ([] : LB) ([] : LB) ([] : LB) (0 : Int) (0 : Int) [] (0 : Int) (0 : Int) [] ([] : LB) y0 y2 y4 y6 y7))))))))) else (K (0 : Int) ([] : LB) (0 : Int) (0 : Int) [] [] ([] : LB) ([] : LB) ([] : LB) (0 : Int) (0 : Int) [] (0 : Int) (0 : Int) [] ([] : LB) (0 : Int) (0 : Int) (0 : Int) (0 : Int) true)))))))) else none) else none))
noncomputable def f46a {α : Type} (k : Nat) (x0 : Int) (x1 : Bool) (x2 : Int) (x3 : LB) (x4 x5 : LR) (x6 : Bool) (K : (Int → LB → Int → Int → LR → LR → LB → LB → LB → Int → Int → LR → Int → Int → LR → LB → Int → Int → Int → Int → Bool → Option α)) : Option α := T46a (f79a k) (f80a k) (f81a k) (f82a k) (f83a k) (f84a k) K x0 x1 x2 x3 x4 x5 x6
noncomputable def W46a (F : Int → Bool → Int → LB → LR → LR → Bool → (Int → LB → Int → Int → LR → LR → LB → LB → LB → Int → Int → LR → Int → Int → LR → LB → Int → Int → Int → Int → Bool → OR) → OR) : Spec := mkSpec [(.c (.p 0 0)), (.agg [(.i i6), .b, (.i i6), .s, (.l 83 vw), (.l 9 vw)])] [(.box [(.c .b)])] fun h h' K => F (hI (lget h 1 .no)) (hB (lget h 2 .no)) (hI (lget h 3 .no)) (hS (lget h 4 .no)) (hR (lget h 5 .no)) (hR (lget h 6 .no)) (hB (lget h' 0 .no)) (fun y0 y1 y2 y3 y4 y5 y6 y7 y8 y9 y10 y11 y12 y13 y14 y15 y16 y17 y18 y19 y20 => K (.ok (AV.agg [(ai y0), (AV.s y1), (ai y2), (ai y3), (AV.lst 61 y4 vw), (AV.lst 63 y5 vw), (AV.s y6), (AV.s y7), (AV.s y8), (ai y9), (ai y10), (AV.lst 97 y11 vw), (ai y12), (ai y13), (AV.lst 59 y14 vw), (AV.s y15), (ai y16), (ai y17), (ai y18), (ai y19)]) [(AObj.box [(AV.b y20)])]))
end Go.AI

set_option linter.unusedVariables false
set_option linter.unusedSimpArgs false
set_option maxRecDepth 100000
namespace Go.AI
open Go.Proofs
theorem run46a (c79a : Int → Bool → Int → LB → LR → LR → Bool → (LB → Int → Int → LR → LR → Bool → OR) → OR) (c80a : Int → Bool → Int → LB → LR → LR → Int → Bool → (Bool → OR) → OR) (c81a : Int → Bool → Int → LB → LR → LR → LB → Bool → (LB → Bool → OR) → OR) (c82a : Int → Bool → Int → LB → LR → LR → LB → Bool → (Int → Bool → OR) → OR) (c83a : Int → Bool → Int → LB → LR → LR → Bool → (Int → LR → Int → Bool → OR) → OR) (c84a : Int → Bool → Int → LB → LR → LR → Bool → (Int → LR → Bool → OR) → OR) (jp : JP) (k : Nat) (K : Res → OR) (x0 : Int) (x1 : Bool) (x2 : Int) (x3 : LB) (x4 x5 : LR) (x6 : Bool) : runF Tryz.prog Gl (rhoL [(79, W79a c79a), (80, W80a c80a), (81, W81a c81a), (82, W82a c82a), (83, W83a c83a), (84, W84a c84a)]) (loopN k) jp Tryz.f46 [(AV.ptr 0 0), (AV.agg [(ai x0), (AV.b x1), (ai x2), (AV.s x3), (AV.lst 83 x4 vw), (AV.lst 9 x5 vw)])] [(AObj.box [(AV.b x6)])] K = T46a c79a c80a c81a c82a c83a c84a (fun y0 y1 y2 y3 y4 y5 y6 y7 y8 y9 y10 y11 y12 y13 y14 y15 y16 y17 y18 y19 y20 => K (.ok (AV.agg [(ai y0), (AV.s y1), (ai y2), (ai y3), (AV.lst 61 y4 vw), (AV.lst 63 y5 vw), (AV.s y6), (AV.s y7), (AV.s y8), (ai y9), (ai y10), (AV.lst 97 y11 vw), (ai y12), (ai y13), (AV.lst 59 y14 vw), (AV.s y15), (ai y16), (ai y17), (ai y18), (ai y19)]) [(AObj.box [(AV.b y20)])])) x0 x1 x2 x3 x4 x5 x6 := by kernel_rfl
theorem ok46a (k : Nat) : SpecOK Tryz.prog Gl (W46a (f46a k)) 46 :=
  mk_ok' (ρ := (rhoL [(79, W79a (f79a k)), (80, W80a (f80a k)), (81, W81a (f81a k)), (82, W82a (f82a k)), (83, W83a (f83a k)), (84, W84a (f84a k))])) (rhoL_ok (forall_cons (ok79a k) (forall_cons (ok80a k) (forall_cons (ok81a k) (forall_cons (ok82a k) (forall_cons (ok83a k) (forall_cons (ok84a k) forall_nil))))))) Tryz_mixed (g := 46) (fn := Tryz.f46) (by kernel_rfl) (by kernel_rfl) k fun h h' K => (run46a (f79a k) (f80a k) (f81a k) (f82a k) (f83a k) (f84a k) jpId k K (hI (lget h 1 .no)) (hB (lget h 2 .no)) (hI (lget h 3 .no)) (hS (lget h 4 .no)) (hR (lget h 5 .no)) (hR (lget h 6 .no)) (hB (lget h' 0 .no))).trans rfl
noncomputable def h13a_0 (s0_3 : LR) (y10 : Int) (y11 y12 : LR) (y13 y14 y15 : LB) (y16 y17 : Int) (y18 : LR) (y19 y20 : Int) (y21 : LR) (y22 : LB) (y23 y24 y25 y26 y7 : Int) (y8 : LB) (y9 : Int) : LR :=
  (radd s0_3 (((ai y7) :: ((AV.s y8) :: ((ai y9) :: ((ai y10) :: ((AV.lst 61 y11 vw) :: ((AV.lst 63 y12 vw) :: ((AV.s y13) :: ((AV.s y14) :: ((AV.s y15) :: ((ai y16) :: ((ai y17) :: ((AV.lst 97 y18 vw) :: ((ai y19) :: ((ai y20) :: ((AV.lst 59 y21 vw) :: ((AV.s y22) :: ((ai y23) :: ((ai y24) :: ((ai y25) :: ((ai y26) :: [])))))))))))))))))))) :: []))
noncomputable def T13al0 {α : Type} (c46a : Int → Bool → Int → LB → LR → LR → Bool → (Int → LB → Int → Int → LR → LR → LB → LB → LB → Int → Int → LR → Int → Int → LR → LB → Int → Int → Int → Int → Bool → Option α) → Option α) (c11a : LR → (LB → Int → Option α) → Option α) (r0 : LR → Int → Bool → Option α) (K : (LR → Int → Option α)) (x0 : LB) (y0 : Int) (y1 : Bool) (y2 : Int) (y3 : LB) (y4 y5 s0_3 : LR) (s0_6 : Int) (s0_13 : Bool) : Option α :=
  (bif (ilt s0_6 (rlen y4)) then (bif (ile (0 : Int) s0_6) then (bif (ilt s0_6 (rlen y4)) then (c46a (toI (lget (rget y4 s0_6) 0 uk)) (toB (lget (rget y4 s0_6) 1 uk)) (toI (lget (rget y4 s0_6) 2 uk)) (toS (lget (rget y4 s0_6) 3 uk)) (toR (lget (rget y4 s0_6) 4 uk)) (toR (lget (rget y4 s0_6) 5 uk)) s0_13 (fun y7 y8 y9 y10 y11 y12 y13 y14 y15 y16 y17 y18 y19 y20 y21 y22 y23 y24 y25 y26 y27 => (bif (room ((List.length s0_3) + 1) 264) then (r0 (h13a_0 s0_3 y10 y11 y12 y13 y14 y15 y16 y17 y18 y19 y20 y21 y22 y23 y24 y25 y26 y7 y8 y9) (wadd i6 s0_6 (1 : Int)) y27) else none))) else none) else none) else (c11a s0_3 (fun y7 y8 => (bif s0_13 then (K [] (1900 : Int)) else (bif (ine y8 (0 : Int)) then (K [] (1900 : Int)) else (bif (Bool.not (seq y7 x0)) then (K [] (1900 : Int)) else (K s0_3 (0 : Int))))))))
noncomputable def T13a {α : Type} (c45a : LB → (Int → Bool → Int → LB → LR → LR → Int → Option α) → Option α) (l0 : LB → Int → Bool → Int → LB → LR → LR → LR → Int → Bool → Option α) (K : (LR → Int → Option α)) (x0 : LB) : Option α :=
  (c45a x0 (fun y0 y1 y2 y3 y4 y5 y6 => (bif (ine y6 (0 : Int)) then (K [] (1900 : Int)) else (bif (ine y0 (4 : Int)) then (K [] (1900 : Int)) else (l0 x0 y0 y1 y2 y3 y4 y5 [] (0 : Int) false)))))
noncomputable def L13al0 {α : Type} (k : Nat) (K : (LR → Int → Option α)) (x0 : LB) (y0 : Int) (y1 : Bool) (y2 : Int) (y3 : LB) (y4 y5 : LR) : Nat → LR → Int → Bool → Option α
  | 0, _, _, _ => none
  | n + 1, s0_3, s0_6, s0_13 => T13al0 (f46a k) (f11a k) (fun s0_3 s0_6 s0_13 => L13al0 k K x0 y0 y1 y2 y3 y4 y5 n s0_3 s0_6 s0_13) K x0 y0 y1 y2 y3 y4 y5 s0_3 s0_6 s0_13
noncomputable def f13a {α : Type} (k : Nat) (x0 : LB) (K : (LR → Int → Option α)) : Option α := T13a (f45a k) (fun x0 y0 y1 y2 y3 y4 y5 s0_3 s0_6 s0_13 => (L13al0 k K x0 y0 y1 y2 y3 y4 y5 k) s0_3 s0_6 s0_13) K x0
noncomputable def W13a (F : LB → (LR → Int → OR) → OR) : Spec := mkSpec [(.c .s)] [] fun h h' K => F (hS (lget h 0 .no)) (fun y0 y1 => K (.ok (AV.tup [(AV.lst 38 y0 vw), (ai y1)]) []))
noncomputable def R13al0 (ρ : FuncId → Fn) (jp : JP) (k : Nat) (K : Res → OR) (x0 : LB) (y0 : Int) (y1 : Bool) (y2 : Int) (y3 : LB) (y4 y5 : LR) (n : Nat) (s0_3 : LR) (s0_6 : Int) (s0_13 : Bool) : OR :=
  atLoop Tryz.prog Gl ρ (loopN k) jp Tryz.f13 0 K [1, 1, 1, 1, 1, 0, 1, 0] [] n 27 [(AV.s x0), uk, (AV.lst 38 [] (Mark.tk (Tok.sl 2) 0)), (ai (0 : Int)), uk, uk, (AV.ptr 20 0), (AV.lst 38 s0_3 (Mark.tk (Tok.sl 7) 0)), uk, uk, uk, uk, uk, uk, uk, uk, uk, uk, uk, uk, uk, uk, uk, uk, uk, uk, uk, (AV.lst 83 y4 vw), (ai (rlen y4)), (ai s0_6), uk, uk, uk, uk, uk, uk, uk, uk, uk, uk, uk, uk, uk, uk, uk, uk, uk, uk, uk, uk, uk, uk, uk, uk, uk, uk, uk, uk, uk] [(Prod.mk 7 (AObj.box [(ai y0), (AV.b y1), (ai y2), (AV.s y3), (AV.lst 83 y4 vw), (AV.lst 9 y5 vw)])), (Prod.mk 20 (AObj.box [(AV.b s0_13)]))] []
theorem step13al0 (c45a : LB → (Int → Bool → Int → LB → LR → LR → Int → OR) → OR) (c46a : Int → Bool → Int → LB → LR → LR → Bool → (Int → LB → Int → Int → LR → LR → LB → LB → LB → Int → Int → LR → Int → Int → LR → LB → Int → Int → Int → Int → Bool → OR) → OR) (c11a : LR → (LB → Int → OR) → OR) (jp : JP) (k : Nat) (K : Res → OR) (x0 : LB) (y0 : Int) (y1 : Bool) (y2 : Int) (y3 : LB) (y4 y5 : LR) (n : Nat) (s0_3 : LR) (s0_6 : Int) (s0_13 : Bool) : R13al0 (rhoL [(45, W45a c45a), (46, W46a c46a), (11, W11a c11a)]) jp k K x0 y0 y1 y2 y3 y4 y5 (n + 1) s0_3 s0_6 s0_13 = T13al0 c46a c11a (fun s0_3 s0_6 s0_13 => R13al0 (rhoL [(45, W45a c45a), (46, W46a c46a), (11, W11a c11a)]) jp k K x0 y0 y1 y2 y3 y4 y5 n s0_3 s0_6 s0_13) (fun y0 y1 => K (.ok (AV.tup [(AV.lst 38 y0 vw), (ai y1)]) [])) x0 y0 y1 y2 y3 y4 y5 s0_3 s0_6 s0_13 := by kernel_rfl
theorem loop13al0 (k : Nat) (K : Res → OR) (x0 : LB) (y0 : Int) (y1 : Bool) (y2 : Int) (y3 : LB) (y4 y5 : LR) : ∀ (n : Nat) (s0_3 : LR) (s0_6 : Int) (s0_13 : Bool), R13al0 (rhoL [(45, W45a (f45a k)), (46, W46a (f46a k)), (11, W11a (f11a k))]) jpId k K x0 y0 y1 y2 y3 y4 y5 n s0_3 s0_6 s0_13 = L13al0 k (fun y0 y1 => K (.ok (AV.tup [(AV.lst 38 y0 vw), (ai y1)]) [])) x0 y0 y1 y2 y3 y4 y5 n s0_3 s0_6 s0_13 := by
  intro n
  induction n generalizing x0 y0 y1 y2 y3 y4 y5 with
  | zero => intro s0_3 s0_6 s0_13; kernel_rfl
  | succ n ih =>
    intro s0_3 s0_6 s0_13
    rw [step13al0 (f45a k) (f46a k) (f11a k) jpId k K]
    simp only [ih]
    kernel_rfl
theorem run13a (c45a : LB → (Int → Bool → Int → LB → LR → LR → Int → OR) → OR) (c46a : Int → Bool → Int → LB → LR → LR → Bool → (Int → LB → Int → Int → LR → LR → LB → LB → LB → Int → Int → LR → Int → Int → LR → LB → Int → Int → Int → Int → Bool → OR) → OR) (c11a : LR → (LB → Int → OR) → OR) (jp : JP) (k : Nat) (K : Res → OR) (x0 : LB) : runF Tryz.prog Gl (rhoL [(45, W45a c45a), (46, W46a c46a), (11, W11a c11a)]) (loopN k) jp Tryz.f13 [(AV.s x0)] [] K = T13a c45a (fun x0 y0 y1 y2 y3 y4 y5 s0_3 s0_6 s0_13 => R13al0 (rhoL [(45, W45a c45a), (46, W46a c46a), (11, W11a c11a)]) jp k K x0 y0 y1 y2 y3 y4 y5 k s0_3 s0_6 s0_13) (fun y0 y1 => K (.ok (AV.tup [(AV.lst 38 y0 vw), (ai y1)]) [])) x0 := by kernel_rfl
theorem ok13a (k : Nat) : SpecOK Tryz.prog Gl (W13a (f13a k)) 13 :=
  mk_ok' (ρ := (rhoL [(45, W45a (f45a k)), (46, W46a (f46a k)), (11, W11a (f11a k))])) (rhoL_ok (forall_cons (ok45a k) (forall_cons (ok46a k) (forall_cons (ok11a k) forall_nil)))) Tryz_mixed (g := 13) (fn := Tryz.f13) (by kernel_rfl) (by kernel_rfl) k fun h h' K => (run13a (f45a k) (f46a k) (f11a k) jpId k K (hS (lget h 0 .no))).trans (by simp only [loop13al0 k K]; rfl)
noncomputable def T15a {α : Type} (K : (Option α)) (x0 : Int) : Option α :=
  K
noncomputable def f15a {α : Type} (k : Nat) (x0 : Int) (K : (Option α)) : Option α := T15a K x0
noncomputable def W15a (F : Int → (OR) → OR) : Spec := mkSpec [(.c (.i i6))] [] fun h h' K => F (hI (lget h 0 .no)) (K (.ok (ai (hI (lget h 0 .no))) []))
theorem run15a (jp : JP) (k : Nat) (K : Res → OR) (x0 : Int) : runF Tryz.prog Gl (rhoL []) (loopN k) jp Tryz.f15 [(ai x0)] [] K = T15a (K (.ok (ai x0) [])) x0 := by kernel_rfl
theorem ok15a (k : Nat) : SpecOK Tryz.prog Gl (W15a (f15a k)) 15 :=
  mk_ok' (ρ := (rhoL [])) (rhoL_ok forall_nil) Tryz_mixed (g := 15) (fn := Tryz.f15) (by kernel_rfl) (by kernel_rfl) k fun h h' K => (run15a jpId k K (hI (lget h 0 .no))).trans rfl
noncomputable def h141a_1 (s0_3 : Int) (x0 x1 : LR) : Bool :=
  (Bool.and (ieq (toI (lget (rget x0 s0_3) 1 uk)) (toI (lget (rget x1 s0_3) 1 uk))) (Bool.and (beqB (toB (lget (rget x0 s0_3) 2 uk)) (toB (lget (rget x1 s0_3) 2 uk))) (Bool.and (seq (toS (lget (rget x0 s0_3) 3 uk)) (toS (lget (rget x1 s0_3) 3 uk))) true)))
noncomputable def T141al0 {α : Type} (r0 : Int → Option α) (K : (Bool → Option α)) (x0 x1 : LR) (s0_3 : Int) : Option α :=
  (bif (ilt s0_3 (rlen x0)) then (bif (ile (0 : Int) s0_3) then (bif (ilt s0_3 (rlen x0)) then (bif (ile (0 : Int) s0_3) then (bif (ilt s0_3 (rlen x1)) then (bif (Bool.not (Bool.and (ieq (toI (lget (rget x0 s0_3) 0 uk)) (toI (lget (rget x1 s0_3) 0 uk))) (h141a_1 s0_3 x0 x1))) then (K false) else (r0 (wadd i6 s0_3 (1 : Int)))) else none) else none) else none) else none) else (K true))
noncomputable def T141a {α : Type} (l0 : LR → LR → Int → Option α) (K : (Bool → Option α)) (x0 x1 : LR) : Option α :=
  (bif (ine (rlen x0) (rlen x1)) then (K false) else (l0 x0 x1 (0 : Int)))
noncomputable def L141al0 {α : Type} (k : Nat) (K : (Bool → Option α)) (x0 x1 : LR) : Nat → Int → Option α
  | 0, _ => none
  | n + 1, s0_3 => T141al0 (fun s0_3 => L141al0 k K x0 x1 n s0_3) K x0 x1 s0_3
noncomputable def f141a {α : Type} (k : Nat) (x0 x1 : LR) (K : (Bool → Option α)) : Option α := T141a (fun x0 x1 s0_3 => (L141al0 k K x0 x1 k) s0_3) K x0 x1
noncomputable def W141a (F : LR → LR → (Bool → OR) → OR) : Spec := mkSpec [(.c (.l 61 vw)), (.c (.l 61 vw))] [] fun h h' K => F (hR (lget h 0 .no)) (hR (lget h 1 .no)) (fun y0 => K (.ok (AV.b y0) []))
noncomputable def R141al0 (ρ : FuncId → Fn) (jp : JP) (k : Nat) (K : Res → OR) (x0 x1 : LR) (n : Nat) (s0_3 : Int) : OR :=
  atLoop Tryz.prog Gl ρ (loopN k) jp Tryz.f141 0 K [1, 1, 0, 1, 0] [] n 8 [(AV.lst 61 x0 vw), (AV.lst 61 x1 vw), uk, uk, (AV.b false), (ai s0_3), uk, uk, uk, uk, uk, uk, uk, uk, uk, uk, uk, uk, uk, uk, uk, uk, uk, uk, uk, uk] [] []
theorem step141al0 (jp : JP) (k : Nat) (K : Res → OR) (x0 x1 : LR) (n : Nat) (s0_3 : Int) : R141al0 (rhoL []) jp k K x0 x1 (n + 1) s0_3 = T141al0 (fun s0_3 => R141al0 (rhoL []) jp k K x0 x1 n s0_3) (fun y0 => K (.ok (AV.b y0) [])) x0 x1 s0_3 := by kernel_rfl
theorem loop141al0 (k : Nat) (K : Res → OR) (x0 x1 : LR) : ∀ (n : Nat) (s0_3 : Int), R141al0 (rhoL []) jpId k K x0 x1 n s0_3 = L141al0 k (fun y0 => K (.ok (AV.b y0) [])) x0 x1 n s0_3 := by
  intro n
  induction n generalizing x0 x1 with
  | zero => intro s0_3; kernel_rfl
  | succ n ih =>
    intro s0_3
    rw [step141al0 jpId k K]
    simp only [ih]
    kernel_rfl
theorem run141a (jp : JP) (k : Nat) (K : Res → OR) (x0 x1 : LR) : runF Tryz.prog Gl (rhoL []) (loopN k) jp Tryz.f141 [(AV.lst 61 x0 vw), (AV.lst 61 x1 vw)] [] K = T141a (fun x0 x1 s0_3 => R141al0 (rhoL []) jp k K x0 x1 k s0_3) (fun y0 => K (.ok (AV.b y0) [])) x0 x1 := by kernel_rfl
theorem ok141a (k : Nat) : SpecOK Tryz.prog Gl (W141a (f141a k)) 141 :=
  mk_ok' (ρ := (rhoL [])) (rhoL_ok forall_nil) Tryz_mixed (g := 141) (fn := Tryz.f141) (by kernel_rfl) (by kernel_rfl) k fun h h' K => (run141a jpId k K (hR (lget h 0 .no)) (hR (lget h 1 .no))).trans (by simp only [loop141al0 k K]; rfl)
noncomputable def h142a_3 (s0_3 : Int) (x0 x1 : LR) : Bool :=
  (Bool.and (ieq (toI (lget (rget x0 s0_3) 3 uk)) (toI (lget (rget x1 s0_3) 3 uk))) (Bool.and (beqB (toB (lget (rget x0 s0_3) 4 uk)) (toB (lget (rget x1 s0_3) 4 uk))) (Bool.and (seq (toS (lget (rget x0 s0_3) 5 uk)) (toS (lget (rget x1 s0_3) 5 uk))) true)))
noncomputable def h142a_4 (s0_3 : Int) (x0 x1 : LR) : Bool :=
  (Bool.and (ieq (toI (lget (rget x0 s0_3) 7 uk)) (toI (lget (rget x1 s0_3) 7 uk))) (Bool.and (beqB (toB (lget (rget x0 s0_3) 8 uk)) (toB (lget (rget x1 s0_3) 8 uk))) (Bool.and (seq (toS (lget (rget x0 s0_3) 9 uk)) (toS (lget (rget x1 s0_3) 9 uk))) true)))
noncomputable def h142a_5 (s0_3 : Int) (x0 x1 : LR) : Bool :=
  (Bool.and (Bool.and (ieq (toI (lget (rget x0 s0_3) 2 uk)) (toI (lget (rget x1 s0_3) 2 uk))) (h142a_3 s0_3 x0 x1)) (Bool.and (Bool.and (ieq (toI (lget (rget x0 s0_3) 6 uk)) (toI (lget (rget x1 s0_3) 6 uk))) (h142a_4 s0_3 x0 x1)) true))
noncomputable def T142al0 {α : Type} (r0 : Int → Option α) (K : (Bool → Option α)) (x0 x1 : LR) (s0_3 : Int) : Option α :=
  (bif (ilt s0_3 (rlen x0)) then (bif (ile (0 : Int) s0_3) then (bif (ilt s0_3 (rlen x0)) then (bif (ile (0 : Int) s0_3) then (bif (ilt s0_3 (rlen x1)) then (bif (Bool.not (Bool.and (ieq (toI (lget (rget x0 s0_3) 0 uk)) (toI (lget (rget x1 s0_3) 0 uk))) (Bool.and (ieq (toI (lget (rget x0 s0_3) 1 uk)) (toI (lget (rget x1 s0_3) 1 uk))) (h142a_5 s0_3 x0 x1)))) then (K false) else (r0 (wadd i6 s0_3 (1 : Int)))) else none) else none) else none) else none) else (K true))
noncomputable def T142a {α : Type} (l0 : LR → LR → Int → Option α) (K : (Bool → Option α)) (x0 x1 : LR) : Option α :=
  (bif (ine (rlen x0) (rlen x1)) then (K false) else (l0 x0 x1 (0 : Int)))
noncomputable def L142al0 {α : Type} (k : Nat) (K : (Bool → Option α)) (x0 x1 : LR) : Nat → Int → Option α
  | 0, _ => none
  | n + 1, s0_3 => T142al0 (fun s0_3 => L142al0 k K x0 x1 n s0_3) K x0 x1 s0_3
noncomputable def f142a {α : Type} (k : Nat) (x0 x1 : LR) (K : (Bool → Option α)) : Option α := T142a (fun x0 x1 s0_3 => (L142al0 k K x0 x1 k) s0_3) K x0 x1
noncomputable def W142a (F : LR → LR → (Bool → OR) → OR) : Spec := mkSpec [(.c (.l 63 vw)), (.c (.l 63 vw))] [] fun h h' K => F (hR (lget h 0 .no)) (hR (lget h 1 .no)) (fun y0 => K (.ok (AV.b y0) []))
noncomputable def R142al0 (ρ : FuncId → Fn) (jp : JP) (k : Nat) (K : Res → OR) (x0 x1 : LR) (n : Nat) (s0_3 : Int) : OR :=
  atLoop Tryz.prog Gl ρ (loopN k) jp Tryz.f142 0 K [1, 1, 0, 1, 0] [] n 8 [(AV.lst 63 x0 vw), (AV.lst 63 x1 vw), uk, uk, (AV.b false), (ai s0_3), uk, uk, uk, uk, uk, uk, uk, uk, uk, uk, uk, uk, uk, uk, uk, uk, uk, uk, uk, uk] [] []
theorem step142al0 (jp : JP) (k : Nat) (K : Res → OR) (x0 x1 : LR) (n : Nat) (s0_3 : Int) : R142al0 (rhoL []) jp k K x0 x1 (n + 1) s0_3 = T142al0 (fun s0_3 => R142al0 (rhoL []) jp k K x0 x1 n s0_3) (fun y0 => K (.ok (AV.b y0) [])) x0 x1 s0_3 := by kernel_rfl
theorem loop142al0 (k : Nat) (K : Res → OR) (x0 x1 : LR) : ∀ (n : Nat) (s0_3 : Int), R142al0 (rhoL []) jpId k K x0 x1 n s0_3 = L142al0 k (fun y0 => K (.ok (AV.b y0) [])) x0 x1 n s0_3 := by
  intro n
  induction n generalizing x0 x1 with
  | zero => intro s0_3; kernel_rfl
  | succ n ih =>
    intro s0_3
    rw [step142al0 jpId k K]
    simp only [ih]
    kernel_rfl
theorem run142a (jp : JP) (k : Nat) (K : Res → OR) (x0 x1 : LR) : runF Tryz.prog Gl (rhoL []) (loopN k) jp Tryz.f142 [(AV.lst 63 x0 vw), (AV.lst 63 x1 vw)] [] K = T142a (fun x0 x1 s0_3 => R142al0 (rhoL []) jp k K x0 x1 k s0_3) (fun y0 => K (.ok (AV.b y0) [])) x0 x1 := by kernel_rfl
theorem ok142a (k : Nat) : SpecOK Tryz.prog Gl (W142a (f142a k)) 142 :=
  mk_ok' (ρ := (rhoL [])) (rhoL_ok forall_nil) Tryz_mixed (g := 142) (fn := Tryz.f142) (by kernel_rfl) (by kernel_rfl) k fun h h' K => (run142a jpId k K (hR (lget h 0 .no)) (hR (lget h 1 .no))).trans (by simp only [loop142al0 k K]; rfl)
noncomputable def T92a {α : Type} (c141a : LR → LR → (Bool → Option α) → Option α) (c142a : LR → LR → (Bool → Option α) → Option α) (K : (Bool → Option α)) (x0 : LB) (x1 x2 : Int) (x3 x4 : LR) (x5 : LB) (x6 x7 : Int) (x8 x9 : LR) : Option α :=
  (bif (seq x0 x5) then (bif (ieq x1 x6) then (bif (ieq x2 x7) then (c141a x3 x8 (fun y0 => (bif y0 then (c142a x4 x9 (fun y1 => (K y1))) else (K false)))) else (K false)) else (K false)) else (K false))
noncomputable def f92a {α : Type} (k : Nat) (x0 : LB) (x1 x2 : Int) (x3 x4 : LR) (x5 : LB) (x6 x7 : Int) (x8 x9 : LR) (K : (Bool → Option α)) : Option α := T92a (f141a k) (f142a k) K x0 x1 x2 x3 x4 x5 x6 x7 x8 x9
noncomputable def W92a (F : LB → Int → Int → LR → LR → LB → Int → Int → LR → LR → (Bool → OR) → OR) : Spec := mkSpec [(.agg [.s, (.i i6), (.i i6), (.l 61 vw), (.l 63 vw)]), (.agg [.s, (.i i6), (.i i6), (.l 61 vw), (.l 63 vw)])] [] fun h h' K => F (hS (lget h 0 .no)) (hI (lget h 1 .no)) (hI (lget h 2 .no)) (hR (lget h 3 .no)) (hR (lget h 4 .no)) (hS (lget h 5 .no)) (hI (lget h 6 .no)) (hI (lget h 7 .no)) (hR (lget h 8 .no)) (hR (lget h 9 .no)) (fun y0 => K (.ok (AV.b y0) []))
theorem run92a (c141a : LR → LR → (Bool → OR) → OR) (c142a : LR → LR → (Bool → OR) → OR) (jp : JP) (k : Nat) (K : Res → OR) (x0 : LB) (x1 x2 : Int) (x3 x4 : LR) (x5 : LB) (x6 x7 : Int) (x8 x9 : LR) : runF Tryz.prog Gl (rhoL [(141, W141a c141a), (142, W142a c142a)]) (loopN k) jp Tryz.f92 [(AV.agg [(AV.s x0), (ai x1), (ai x2), (AV.lst 61 x3 vw), (AV.lst 63 x4 vw)]), (AV.agg [(AV.s x5), (ai x6), (ai x7), (AV.lst 61 x8 vw), (AV.lst 63 x9 vw)])] [] K = T92a c141a c142a (fun y0 => K (.ok (AV.b y0) [])) x0 x1 x2 x3 x4 x5 x6 x7 x8 x9 := by kernel_rfl
theorem ok92a (k : Nat) : SpecOK Tryz.prog Gl (W92a (f92a k)) 92 :=
  mk_ok' (ρ := (rhoL [(141, W141a (f141a k)), (142, W142a (f142a k))])) (rhoL_ok (forall_cons (ok141a k) (forall_cons (ok142a k) forall_nil))) Tryz_mixed (g := 92) (fn := Tryz.f92) (by kernel_rfl) (by kernel_rfl) k fun h h' K => (run92a (f141a k) (f142a k) jpId k K (hS (lget h 0 .no)) (hI (lget h 1 .no)) (hI (lget h 2 .no)) (hR (lget h 3 .no)) (hR (lget h 4 .no)) (hS (lget h 5 .no)) (hI (lget h 6 .no)) (hI (lget h 7 .no)) (hR (lget h 8 .no)) (hR (lget h 9 .no))).trans rfl
noncomputable def h143a_1 (s0_3 : Int) (x0 x1 : LR) : Bool :=
  (Bool.and (ieq (toI (lget (rget x0 s0_3) 0 uk)) (toI (lget (rget x1 s0_3) 0 uk))) (Bool.and (seq (toS (lget (rget x0 s0_3) 1 uk)) (toS (lget (rget x1 s0_3) 1 uk))) (Bool.and (ieq (toI (lget (rget x0 s0_3) 2 uk)) (toI (lget (rget x1 s0_3) 2 uk))) true)))
noncomputable def T143al0 {α : Type} (r0 : Int → Option α) (K : (Bool → Option α)) (x0 x1 : LR) (s0_3 : Int) : Option α :=
  (bif (ilt s0_3 (rlen x0)) then (bif (ile (0 : Int) s0_3) then (bif (ilt s0_3 (rlen x0)) then (bif (ile (0 : Int) s0_3) then (bif (ilt s0_3 (rlen x1)) then (bif (Bool.not (h143a_1 s0_3 x0 x1)) then (K false) else (r0 (wadd i6 s0_3 (1 : Int)))) else none) else none) else none) else none) else (K true))
noncomputable def T143a {α : Type} (l0 : LR → LR → Int → Option α) (K : (Bool → Option α)) (x0 x1 : LR) : Option α :=
  (bif (ine (rlen x0) (rlen x1)) then (K false) else (l0 x0 x1 (0 : Int)))
noncomputable def L143al0 {α : Type} (k : Nat) (K : (Bool → Option α)) (x0 x1 : LR) : Nat → Int → Option α
  | 0, _ => none
  | n + 1, s0_3 => T143al0 (fun s0_3 => L143al0 k K x0 x1 n s0_3) K x0 x1 s0_3
noncomputable def f143a {α : Type} (k : Nat) (x0 x1 : LR) (K : (Bool → Option α)) : Option α := T143a (fun x0 x1 s0_3 => (L143al0 k K x0 x1 k) s0_3) K x0 x1
noncomputable def W143a (F : LR → LR → (Bool → OR) → OR) : Spec := mkSpec [(.c (.l 97 vw)), (.c (.l 97 vw))] [] fun h h' K => F (hR (lget h 0 .no)) (hR (lget h 1 .no)) (fun y0 => K (.ok (AV.b y0) []))
noncomputable def R143al0 (ρ : FuncId → Fn) (jp : JP) (k : Nat) (K : Res → OR) (x0 x1 : LR) (n : Nat) (s0_3 : Int) : OR :=
  atLoop Tryz.prog Gl ρ (loopN k) jp Tryz.f143 0 K [1, 1, 0, 1, 0] [] n 8 [(AV.lst 97 x0 vw), (AV.lst 97 x1 vw), uk, uk, (AV.b false), (ai s0_3), uk, uk, uk, uk, uk, uk, uk, uk, uk, uk, uk, uk, uk, uk, uk, uk, uk, uk, uk, uk] [] []
theorem step143al0 (jp : JP) (k : Nat) (K : Res → OR) (x0 x1 : LR) (n : Nat) (s0_3 : Int) : R143al0 (rhoL []) jp k K x0 x1 (n + 1) s0_3 = T143al0 (fun s0_3 => R143al0 (rhoL []) jp k K x0 x1 n s0_3) (fun y0 => K (.ok (AV.b y0) [])) x0 x1 s0_3 := by kernel_rfl
theorem loop143al0 (k : Nat) (K : Res → OR) (x0 x1 : LR) : ∀ (n : Nat) (s0_3 : Int), R143al0 (rhoL []) jpId k K x0 x1 n s0_3 = L143al0 k (fun y0 => K (.ok (AV.b y0) [])) x0 x1 n s0_3 := by
  intro n
  induction n generalizing x0 x1 with
  | zero => intro s0_3; kernel_rfl
  | succ n ih =>
    intro s0_3
    rw [step143al0 jpId k K]
    simp only [ih]
    kernel_rfl
theorem run143a (jp : JP) (k : Nat) (K : Res → OR) (x0 x1 : LR) : runF Tryz.prog Gl (rhoL []) (loopN k) jp Tryz.f143 [(AV.lst 97 x0 vw), (AV.lst 97 x1 vw)] [] K = T143a (fun x0 x1 s0_3 => R143al0 (rhoL []) jp k K x0 x1 k s0_3) (fun y0 => K (.ok (AV.b y0) [])) x0 x1 := by kernel_rfl
theorem ok143a (k : Nat) : SpecOK Tryz.prog Gl (W143a (f143a k)) 143 :=
  mk_ok' (ρ := (rhoL [])) (rhoL_ok forall_nil) Tryz_mixed (g := 143) (fn := Tryz.f143) (by kernel_rfl) (by kernel_rfl) k fun h h' K => (run143a jpId k K (hR (lget h 0 .no)) (hR (lget h 1 .no))).trans (by simp only [loop143al0 k K]; rfl)
noncomputable def T93a {α : Type} (c143a : LR → LR → (Bool → Option α) → Option α) (K : (Bool → Option α)) (x0 : Int) (x1 : LR) (x2 x3 : Int) (x4 : LR) (x5 : Int) : Option α :=
  (bif (ieq x0 x3) then (bif (ieq x2 x5) then (c143a x1 x4 (fun y0 => (K y0))) else (K false)) else (K false))
noncomputable def f93a {α : Type} (k : Nat) (x0 : Int) (x1 : LR) (x2 x3 : Int) (x4 : LR) (x5 : Int) (K : (Bool → Option α)) : Option α := T93a (f143a k) K x0 x1 x2 x3 x4 x5
noncomputable def W93a (F : Int → LR → Int → Int → LR → Int → (Bool → OR) → OR) : Spec := mkSpec [(.agg [(.i i6), (.l 97 vw), (.i i6)]), (.agg [(.i i6), (.l 97 vw), (.i i6)])] [] fun h h' K => F (hI (lget h 0 .no)) (hR (lget h 1 .no)) (hI (lget h 2 .no)) (hI (lget h 3 .no)) (hR (lget h 4 .no)) (hI (lget h 5 .no)) (fun y0 => K (.ok (AV.b y0) []))
theorem run93a (c143a : LR → LR → (Bool → OR) → OR) (jp : JP) (k : Nat) (K : Res → OR) (x0 : Int) (x1 : LR) (x2 x3 : Int) (x4 : LR) (x5 : Int) : runF Tryz.prog Gl (rhoL [(143, W143a c143a)]) (loopN k) jp Tryz.f93 [(AV.agg [(ai x0), (AV.lst 97 x1 vw), (ai x2)]), (AV.agg [(ai x3), (AV.lst 97 x4 vw), (ai x5)])] [] K = T93a c143a (fun y0 => K (.ok (AV.b y0) [])) x0 x1 x2 x3 x4 x5 := by kernel_rfl
theorem ok93a (k : Nat) : SpecOK Tryz.prog Gl (W93a (f93a k)) 93 :=
  mk_ok' (ρ := (rhoL [(143, W143a (f143a k))])) (rhoL_ok (forall_cons (ok143a k) forall_nil)) Tryz_mixed (g := 93) (fn := Tryz.f93) (by kernel_rfl) (by kernel_rfl) k fun h h' K => (run93a (f143a k) jpId k K (hI (lget h 0 .no)) (hR (lget h 1 .no)) (hI (lget h 2 .no)) (hI (lget h 3 .no)) (hR (lget h 4 .no)) (hI (lget h 5 .no))).trans rfl
noncomputable def h94a_1 (s0_3 : Int) (x0 x1 : LR) : Bool :=
  (Bool.and (ieq (toI (lget (rget x0 s0_3) 0 uk)) (toI (lget (rget x1 s0_3) 0 uk))) (Bool.and (ieq (toI (lget (rget x0 s0_3) 1 uk)) (toI (lget (rget x1 s0_3) 1 uk))) (Bool.and (ieq (toI (lget (rget x0 s0_3) 2 uk)) (toI (lget (rget x1 s0_3) 2 uk))) true)))
noncomputable def T94al0 {α : Type} (r0 : Int → Option α) (K : (Bool → Option α)) (x0 x1 : LR) (s0_3 : Int) : Option α :=
  (bif (ilt s0_3 (rlen x0)) then (bif (ile (0 : Int) s0_3) then (bif (ilt s0_3 (rlen x0)) then (bif (ile (0 : Int) s0_3) then (bif (ilt s0_3 (rlen x1)) then (bif (Bool.not (h94a_1 s0_3 x0 x1)) then (K false) else (r0 (wadd i6 s0_3 (1 : Int)))) else none) else none) else none) else none) else (K true))
noncomputable def T94a {α : Type} (l0 : LR → LR → Int → Option α) (K : (Bool → Option α)) (x0 x1 : LR) : Option α :=
  (bif (ine (rlen x0) (rlen x1)) then (K false) else (l0 x0 x1 (0 : Int)))
noncomputable def L94al0 {α : Type} (k : Nat) (K : (Bool → Option α)) (x0 x1 : LR) : Nat → Int → Option α
  | 0, _ => none
  | n + 1, s0_3 => T94al0 (fun s0_3 => L94al0 k K x0 x1 n s0_3) K x0 x1 s0_3
noncomputable def f94a {α : Type} (k : Nat) (x0 x1 : LR) (K : (Bool → Option α)) : Option α := T94a (fun x0 x1 s0_3 => (L94al0 k K x0 x1 k) s0_3) K x0 x1
noncomputable def W94a (F : LR → LR → (Bool → OR) → OR) : Spec := mkSpec [(.c (.l 59 vw)), (.c (.l 59 vw))] [] fun h h' K => F (hR (lget h 0 .no)) (hR (lget h 1 .no)) (fun y0 => K (.ok (AV.b y0) []))
noncomputable def R94al0 (ρ : FuncId → Fn) (jp : JP) (k : Nat) (K : Res → OR) (x0 x1 : LR) (n : Nat) (s0_3 : Int) : OR :=
  atLoop Tryz.prog Gl ρ (loopN k) jp Tryz.f94 0 K [1, 1, 0, 1, 0] [] n 8 [(AV.lst 59 x0 vw), (AV.lst 59 x1 vw), uk, uk, (AV.b false), (ai s0_3), uk, uk, uk, uk, uk, uk, uk, uk, uk, uk, uk, uk, uk, uk, uk, uk, uk, uk, uk, uk] [] []
theorem step94al0 (jp : JP) (k : Nat) (K : Res → OR) (x0 x1 : LR) (n : Nat) (s0_3 : Int) : R94al0 (rhoL []) jp k K x0 x1 (n + 1) s0_3 = T94al0 (fun s0_3 => R94al0 (rhoL []) jp k K x0 x1 n s0_3) (fun y0 => K (.ok (AV.b y0) [])) x0 x1 s0_3 := by kernel_rfl
theorem loop94al0 (k : Nat) (K : Res → OR) (x0 x1 : LR) : ∀ (n : Nat) (s0_3 : Int), R94al0 (rhoL []) jpId k K x0 x1 n s0_3 = L94al0 k (fun y0 => K (.ok (AV.b y0) [])) x0 x1 n s0_3 := by
  intro n
  induction n generalizing x0 x1 with
  | zero => intro s0_3; kernel_rfl
  | succ n ih =>
    intro s0_3
    rw [step94al0 jpId k K]
    simp only [ih]
    kernel_rfl
theorem run94a (jp : JP) (k : Nat) (K : Res → OR) (x0 x1 : LR) : runF Tryz.prog Gl (rhoL []) (loopN k) jp Tryz.f94 [(AV.lst 59 x0 vw), (AV.lst 59 x1 vw)] [] K = T94a (fun x0 x1 s0_3 => R94al0 (rhoL []) jp k K x0 x1 k s0_3) (fun y0 => K (.ok (AV.b y0) [])) x0 x1 := by kernel_rfl
theorem ok94a (k : Nat) : SpecOK Tryz.prog Gl (W94a (f94a k)) 94 :=
  mk_ok' (ρ := (rhoL [])) (rhoL_ok forall_nil) Tryz_mixed (g := 94) (fn := Tryz.f94) (by kernel_rfl) (by kernel_rfl) k fun h h' K => (run94a jpId k K (hR (lget h 0 .no)) (hR (lget h 1 .no))).trans (by simp only [loop94al0 k K]; rfl)
noncomputable def T49a {α : Type} (c92a : LB → Int → Int → LR → LR → LB → Int → Int → LR → LR → (Bool → Option α) → Option α) (c93a : Int → LR → Int → Int → LR → Int → (Bool → Option α) → Option α) (c94a : LR → LR → (Bool → Option α) → Option α) (K : (Bool → Option α)) (x0 : Int) (x1 : LB) (x2 x3 : Int) (x4 x5 : LR) (x6 x7 x8 : LB) (x9 x10 : Int) (x11 : LR) (x12 x13 : Int) (x14 : LR) (x15 : LB) (x16 x17 x18 x19 x20 : Int) (x21 : LB) (x22 x23 : Int) (x24 x25 : LR) (x26 x27 x28 : LB) (x29 x30 : Int) (x31 : LR) (x32 x33 : Int) (x34 : LR) (x35 : LB) (x36 x37 x38 x39 : Int) : Option α :=
  (bif (ieq x0 x20) then (c92a x1 x2 x3 x4 x5 x21 x22 x23 x24 x25 (fun y0 => (bif y0 then (bif (seq x6 x26) then (bif (Bool.and (seq x7 x27) (Bool.and (seq x8 x28) (Bool.and (ieq x9 x29) true))) then (c93a x10 x11 x12 x30 x31 x32 (fun y1 => (bif y1 then (bif (ieq x13 x33) then (c94a x14 x34 (fun y2 => (bif y2 then (bif (seq x15 x35) then (bif (ieq x16 x36) then (bif (ieq x17 x37) then (bif (ieq x18 x38) then (K (ieq x19 x39)) else (K false)) else (K false)) else (K false)) else (K false)) else (K false)))) else (K false)) else (K false)))) else (K false)) else (K false)) else (K false)))) else (K false))
noncomputable def f49a {α : Type} (k : Nat) (x0 : Int) (x1 : LB) (x2 x3 : Int) (x4 x5 : LR) (x6 x7 x8 : LB) (x9 x10 : Int) (x11 : LR) (x12 x13 : Int) (x14 : LR) (x15 : LB) (x16 x17 x18 x19 x20 : Int) (x21 : LB) (x22 x23 : Int) (x24 x25 : LR) (x26 x27 x28 : LB) (x29 x30 : Int) (x31 : LR) (x32 x33 : Int) (x34 : LR) (x35 : LB) (x36 x37 x38 x39 : Int) (K : (Bool → Option α)) : Option α := T49a (f92a k) (f93a k) (f94a k) K x0 x1 x2 x3 x4 x5 x6 x7 x8 x9 x10 x11 x12 x13 x14 x15 x16 x17 x18 x19 x20 x21 x22 x23 x24 x25 x26 x27 x28 x29 x30 x31 x32 x33 x34 x35 x36 x37 x38 x39
noncomputable def W49a (F : Int → LB → Int → Int → LR → LR → LB → LB → LB → Int → Int → LR → Int → Int → LR → LB → Int → Int → Int → Int → Int → LB → Int → Int → LR → LR → LB → LB → LB → Int → Int → LR → Int → Int → LR → LB → Int → Int → Int → Int → (Bool → OR) → OR) : Spec := mkSpec [(.agg [(.i i6), .s, (.i i6), (.i i6), (.l 61 vw), (.l 63 vw), .s, .s, .s, (.i i6), (.i i6), (.l 97 vw), (.i i6), (.i i6), (.l 59 vw), .s, (.i i6), (.i i6), (.i i6), (.i i6)]), (.agg [(.i i6), .s, (.i i6), (.i i6), (.l 61 vw), (.l 63 vw), .s, .s, .s, (.i i6), (.i i6), (.l 97 vw), (.i i6), (.i i6), (.l 59 vw), .s, (.i i6), (.i i6), (.i i6), (.i i6)])] [] fun h h' K => F (hI (lget h 0 .no)) (hS (lget h 1 .no)) (hI (lget h 2 .no)) (hI (lget h 3 .no)) (hR (lget h 4 .no)) (hR (lget h 5 .no)) (hS (lget h 6 .no)) (hS (lget h 7 .no)) (hS (lget h 8 .no)) (hI (lget h 9 .no)) (hI (lget h 10 .no)) (hR (lget h 11 .no)) (hI (lget h 12 .no)) (hI (lget h 13 .no)) (hR (lget h 14 .no)) (hS (lget h 15 .no)) (hI (lget h 16 .no)) (hI (lget h 17 .no)) (hI (lget h 18 .no)) (hI (lget h 19 .no)) (hI (lget h 20 .no)) (hS (lget h 21 .no)) (hI (lget h 22 .no)) (hI (lget h 23 .no)) (hR (lget h 24 .no)) (hR (lget h 25 .no)) (hS (lget h 26 .no)) (hS (lget h 27 .no)) (hS (lget h 28 .no)) (hI (lget h 29 .no)) (hI (lget h 30 .no)) (hR (lget h 31 .no)) (hI (lget h 32 .no)) (hI (lget h 33 .no)) (hR (lget h 34 .no)) (hS (lget h 35 .no)) (hI (lget h 36 .no)) (hI (lget h 37 .no)) (hI (lget h 38 .no)) (hI (lget h 39 .no)) (fun y0 => K (.ok (AV.b y0) []))
theorem run49a (c92a : LB → Int → Int → LR → LR → LB → Int → Int → LR → LR → (Bool → OR) → OR) (c93a : Int → LR → Int → Int → LR → Int → (Bool → OR) → OR) (c94a : LR → LR → (Bool → OR) → OR) (jp : JP) (k : Nat) (K : Res → OR) (x0 : Int) (x1 : LB) (x2 x3 : Int) (x4 x5 : LR) (x6 x7 x8 : LB) (x9 x10 : Int) (x11 : LR) (x12 x13 : Int) (x14 : LR) (x15 : LB) (x16 x17 x18 x19 x20 : Int) (x21 : LB) (x22 x23 : Int) (x24 x25 : LR) (x26 x27 x28 : LB) (x29 x30 : Int) (x31 : LR) (x32 x33 : Int) (x34 : LR) (x35 : LB) (x36 x37 x38 x39 : Int) : runF Tryz.prog Gl (rhoL [(92, W92a c92a), (93, W93a c93a), (94, W94a c94a)]) (loopN k) jp Tryz.f49 [(AV.agg [(ai x0), (AV.s x1), (ai x2), (ai x3), (AV.lst 61 x4 vw), (AV.lst 63 x5 vw), (AV.s x6), (AV.s x7), (AV.s x8), (ai x9), (ai x10), (AV.lst 97 x11 vw), (ai x12), (ai x13), (AV.lst 59 x14 vw), (AV.s x15), (ai x16), (ai x17), (ai x18), (ai x19)]), (AV.agg [(ai x20), (AV.s x21), (ai x22), (ai x23), (AV.lst 61 x24 vw), (AV.lst 63 x25 vw), (AV.s x26), (AV.s x27), (AV.s x28), (ai x29), (ai x30), (AV.lst 97 x31 vw), (ai x32), (ai x33), (AV.lst 59 x34 vw), (AV.s x35), (ai x36), (ai x37), (ai x38), (ai x39)])] [] K = T49a c92a c93a c94a (fun y0 => K (.ok (AV.b y0) [])) x0 x1 x2 x3 x4 x5 x6 x7 x8 x9 x10 x11 x12 x13 x14 x15 x16 x17 x18 x19 x20 x21 x22 x23 x24 x25 x26 x27 x28 x29 x30 x31 x32 x33 x34 x35 x36 x37 x38 x39 := by kernel_rfl
theorem ok49a (k : Nat) : SpecOK Tryz.prog Gl (W49a (f49a k)) 49 :=
  mk_ok' (ρ := (rhoL [(92, W92a (f92a k)), (93, W93a (f93a k)), (94, W94a (f94a k))])) (rhoL_ok (forall_cons (ok92a k) (forall_cons (ok93a k) (forall_cons (ok94a k) forall_nil)))) Tryz_mixed (g := 49) (fn := Tryz.f49) (by kernel_rfl) (by kernel_rfl) k fun h h' K => (run49a (f92a k) (f93a k) (f94a k) jpId k K (hI (lget h 0 .no)) (hS (lget h 1 .no)) (hI (lget h 2 .no)) (hI (lget h 3 .no)) (hR (lget h 4 .no)) (hR (lget h 5 .no)) (hS (lget h 6 .no)) (hS (lget h 7 .no)) (hS (lget h 8 .no)) (hI (lget h 9 .no)) (hI (lget h 10 .no)) (hR (lget h 11 .no)) (hI (lget h 12 .no)) (hI (lget h 13 .no)) (hR (lget h 14 .no)) (hS (lget h 15 .no)) (hI (lget h 16 .no)) (hI (lget h 17 .no)) (hI (lget h 18 .no)) (hI (lget h 19 .no)) (hI (lget h 20 .no)) (hS (lget h 21 .no)) (hI (lget h 22 .no)) (hI (lget h 23 .no)) (hR (lget h 24 .no)) (hR (lget h 25 .no)) (hS (lget h 26 .no)) (hS (lget h 27 .no)) (hS (lget h 28 .no)) (hI (lget h 29 .no)) (hI (lget h 30 .no)) (hR (lget h 31 .no)) (hI (lget h 32 .no)) (hI (lget h 33 .no)) (hR (lget h 34 .no)) (hS (lget h 35 .no)) (hI (lget h 36 .no)) (hI (lget h 37 .no)) (hI (lget h 38 .no)) (hI (lget h 39 .no))).trans rfl
noncomputable def T16al0 {α : Type} (c49a : Int → LB → Int → Int → LR → LR → LB → LB → LB → Int → Int → LR → Int → Int → LR → LB → Int → Int → Int → Int → Int → LB → Int → Int → LR → LR → LB → LB → LB → Int → Int → LR → Int → Int → LR → LB → Int → Int → Int → Int → (Bool → Option α) → Option α) (r0 : Int → Option α) (K : (Bool → Option α)) (x0 x1 : LR) (s0_3 : Int) : Option α :=
  (bif (ilt s0_3 (rlen x0)) then (bif (ile (0 : Int) s0_3) then (bif (ilt s0_3 (rlen x0)) then (bif (ile (0 : Int) s0_3) then (bif (ilt s0_3 (rlen x1)) then (c49a (toI (lget (rget x0 s0_3) 0 uk)) (toS (lget (rget x0 s0_3) 1 uk)) (toI (lget (rget x0 s0_3) 2 uk)) (toI (lget (rget x0 s0_3) 3 uk)) (toR (lget (rget x0 s0_3) 4 uk)) (toR (lget (rget x0 s0_3) 5 uk)) (toS (lget (rget x0 s0_3) 6 uk)) (toS (lget (rget x0 s0_3) 7 uk)) (toS (lget (rget x0 s0_3) 8 uk)) (toI (lget (rget x0 s0_3) 9 uk)) (toI (lget (rget x0 s0_3) 10 uk)) (toR (lget (rget x0 s0_3) 11 uk)) (toI (lget (rget x0 s0_3) 12 uk)) (toI (lget (rget x0 s0_3) 13 uk)) (toR (lget (rget x0 s0_3) 14 uk)) (toS (lget (rget x0 s0_3) 15 uk)) (toI (lget (rget x0 s0_3) 16 uk)) (toI (lget (rget x0 s0_3) 17 uk)) (toI (lget (rget x0 s0_3) 18 uk)) (toI (lget (rget x0 s0_3) 19 uk)) (toI (lget (rget x1 s0_3) 0 uk)) (toS (lget (rget x1 s0_3) 1 uk)) (toI (lget (rget x1 s0_3) 2 uk)) (toI (lget (rget x1 s0_3) 3 uk)) (toR (lget (rget x1 s0_3) 4 uk)) (toR (lget (rget x1 s0_3) 5 uk)) (toS (lget (rget x1 s0_3) 6 uk)) (toS (lget (rget x1 s0_3) 7 uk)) (toS (lget (rget x1 s0_3) 8 uk)) (toI (lget (rget x1 s0_3) 9 uk)) (toI (lget (rget x1 s0_3) 10 uk)) (toR (lget (rget x1 s0_3) 11 uk)) (toI (lget (rget x1 s0_3) 12 uk)) (toI (lget (rget x1 s0_3) 13 uk)) (toR (lget (rget x1 s0_3) 14 uk)) (toS (lget (rget x1 s0_3) 15 uk)) (toI (lget (rget x1 s0_3) 16 uk)) (toI (lget (rget x1 s0_3) 17 uk)) (toI (lget (rget x1 s0_3) 18 uk)) (toI (lget (rget x1 s0_3) 19 uk)) (fun y0 => (bif (Bool.not y0) then (K false) else (r0 (wadd i6 s0_3 (1 : Int)))))) else none) else none) else none) else none) else (K true))
noncomputable def T16a {α : Type} (l0 : LR → LR → Int → Option α) (K : (Bool → Option α)) (x0 x1 : LR) : Option α :=
  (bif (ine (rlen x0) (rlen x1)) then (K false) else (l0 x0 x1 (0 : Int)))
noncomputable def L16al0 {α : Type} (k : Nat) (K : (Bool → Option α)) (x0 x1 : LR) : Nat → Int → Option α
  | 0, _ => none
  | n + 1, s0_3 => T16al0 (f49a k) (fun s0_3 => L16al0 k K x0 x1 n s0_3) K x0 x1 s0_3
noncomputable def f16a {α : Type} (k : Nat) (x0 x1 : LR) (K : (Bool → Option α)) : Option α := T16a (fun x0 x1 s0_3 => (L16al0 k K x0 x1 k) s0_3) K x0 x1
noncomputable def W16a (F : LR → LR → (Bool → OR) → OR) : Spec := mkSpec [(.c (.l 38 vw)), (.c (.l 38 vw))] [] fun h h' K => F (hR (lget h 0 .no)) (hR (lget h 1 .no)) (fun y0 => K (.ok (AV.b y0) []))
noncomputable def R16al0 (ρ : FuncId → Fn) (jp : JP) (k : Nat) (K : Res → OR) (x0 x1 : LR) (n : Nat) (s0_3 : Int) : OR :=
  atLoop Tryz.prog Gl ρ (loopN k) jp Tryz.f16 0 K [1, 1, 0, 1, 0] [] n 8 [(AV.lst 38 x0 vw), (AV.lst 38 x1 vw), uk, uk, (AV.b false), (ai s0_3), uk, uk, uk, uk, uk, uk, uk, uk, uk, uk, uk, uk, uk, uk, uk, uk, uk, uk, uk, uk, uk] [] []
theorem step16al0 (c49a : Int → LB → Int → Int → LR → LR → LB → LB → LB → Int → Int → LR → Int → Int → LR → LB → Int → Int → Int → Int → Int → LB → Int → Int → LR → LR → LB → LB → LB → Int → Int → LR → Int → Int → LR → LB → Int → Int → Int → Int → (Bool → OR) → OR) (jp : JP) (k : Nat) (K : Res → OR) (x0 x1 : LR) (n : Nat) (s0_3 : Int) : R16al0 (rhoL [(49, W49a c49a)]) jp k K x0 x1 (n + 1) s0_3 = T16al0 c49a (fun s0_3 => R16al0 (rhoL [(49, W49a c49a)]) jp k K x0 x1 n s0_3) (fun y0 => K (.ok (AV.b y0) [])) x0 x1 s0_3 := by kernel_rfl
theorem loop16al0 (k : Nat) (K : Res → OR) (x0 x1 : LR) : ∀ (n : Nat) (s0_3 : Int), R16al0 (rhoL [(49, W49a (f49a k))]) jpId k K x0 x1 n s0_3 = L16al0 k (fun y0 => K (.ok (AV.b y0) [])) x0 x1 n s0_3 := by
  intro n
  induction n generalizing x0 x1 with
  | zero => intro s0_3; kernel_rfl
  | succ n ih =>
    intro s0_3
    rw [step16al0 (f49a k) jpId k K]
    simp only [ih]
    kernel_rfl
theorem run16a (c49a : Int → LB → Int → Int → LR → LR → LB → LB → LB → Int → Int → LR → Int → Int → LR → LB → Int → Int → Int → Int → Int → LB → Int → Int → LR → LR → LB → LB → LB → Int → Int → LR → Int → Int → LR → LB → Int → Int → Int → Int → (Bool → OR) → OR) (jp : JP) (k : Nat) (K : Res → OR) (x0 x1 : LR) : runF Tryz.prog Gl (rhoL [(49, W49a c49a)]) (loopN k) jp Tryz.f16 [(AV.lst 38 x0 vw), (AV.lst 38 x1 vw)] [] K = T16a (fun x0 x1 s0_3 => R16al0 (rhoL [(49, W49a c49a)]) jp k K x0 x1 k s0_3) (fun y0 => K (.ok (AV.b y0) [])) x0 x1 := by kernel_rfl
theorem ok16a (k : Nat) : SpecOK Tryz.prog Gl (W16a (f16a k)) 16 :=
  mk_ok' (ρ := (rhoL [(49, W49a (f49a k))])) (rhoL_ok (forall_cons (ok49a k) forall_nil)) Tryz_mixed (g := 16) (fn := Tryz.f16) (by kernel_rfl) (by kernel_rfl) k fun h h' K => (run16a (f49a k) jpId k K (hR (lget h 0 .no)) (hR (lget h 1 .no))).trans (by simp only [loop16al0 k K]; rfl)
noncomputable def h18a_0 (y0 : LB) : Bool :=
  (seq y0 ([91, 123, 34, 105, 110, 102, 111, 34, 58, 123, 34, 99, 108, 105, 101, 110, 116, 34, 58, 49, 44, 34, 115, 101, 113, 34, 58, 50, 44, 34, 111, 112, 34, 58, 48, 44, 34, 116, 105, 109, 101, 34, 58, 51, 125, 125, 44, 123, 34, 114, 101, 109, 111, 118, 101, 34, 58, 34, 100, 97, 116, 97, 47, 120, 34, 125, 93] : LB))
noncomputable def T18a {α : Type} (c11a : LR → (LB → Int → Option α) → Option α) (c13a : LB → (LR → Int → Option α) → Option α) (c15a : Int → (Option α) → Option α) (c16a : LR → LR → (Bool → Option α) → Option α) (c9a : Int → LB → Int → Int → LR → LR → LB → LB → LB → Int → Int → LR → Int → Int → LR → LB → Int → Int → Int → Int → (Bool → Option α) → Option α) (K : (Bool → Option α)) : Option α :=
  (c11a (((ai (6 : Int)) :: ((AV.s ([] : LB)) :: ((ai (0 : Int)) :: ((ai (0 : Int)) :: ((AV.lst 61 [] vw) :: ((AV.lst 63 [] vw) :: ((AV.s ([] : LB)) :: ((AV.s ([] : LB)) :: ((AV.s ([] : LB)) :: ((ai (0 : Int)) :: ((ai (0 : Int)) :: ((AV.lst 97 [] vw) :: ((ai (0 : Int)) :: ((ai (0 : Int)) :: ((AV.lst 59 [] vw) :: ((AV.s ([] : LB)) :: ((ai (1 : Int)) :: ((ai (2 : Int)) :: ((ai (0 : Int)) :: ((ai (3 : Int)) :: [])))))))))))))))))))) :: (((ai (1 : Int)) :: ((AV.s ([] : LB)) :: ((ai (0 : Int)) :: ((ai (0 : Int)) :: ((AV.lst 61 [] vw) :: ((AV.lst 63 [] vw) :: ((AV.s ([100, 97, 116, 97, 47, 120] : LB)) :: ((AV.s ([] : LB)) :: ((AV.s ([] : LB)) :: ((ai (0 : Int)) :: ((ai (0 : Int)) :: ((AV.lst 97 [] vw) :: ((ai (0 : Int)) :: ((ai (0 : Int)) :: ((AV.lst 59 [] vw) :: ((AV.s ([] : LB)) :: ((ai (0 : Int)) :: ((ai (0 : Int)) :: ((ai (0 : Int)) :: ((ai (0 : Int)) :: [])))))))))))))))))))) :: [])) (fun y0 y1 => (c13a y0 (fun y2 y3 => (c13a ([91, 49, 93] : LB) (fun y4 y5 => (bif (h18a_0 y0) then (c15a y1 (bif (ieq y1 (0 : Int)) then (c16a y2 (((ai (6 : Int)) :: ((AV.s ([] : LB)) :: ((ai (0 : Int)) :: ((ai (0 : Int)) :: ((AV.lst 61 [] vw) :: ((AV.lst 63 [] vw) :: ((AV.s ([] : LB)) :: ((AV.s ([] : LB)) :: ((AV.s ([] : LB)) :: ((ai (0 : Int)) :: ((ai (0 : Int)) :: ((AV.lst 97 [] vw) :: ((ai (0 : Int)) :: ((ai (0 : Int)) :: ((AV.lst 59 [] vw) :: ((AV.s ([] : LB)) :: ((ai (1 : Int)) :: ((ai (2 : Int)) :: ((ai (0 : Int)) :: ((ai (3 : Int)) :: [])))))))))))))))))))) :: (((ai (1 : Int)) :: ((AV.s ([] : LB)) :: ((ai (0 : Int)) :: ((ai (0 : Int)) :: ((AV.lst 61 [] vw) :: ((AV.lst 63 [] vw) :: ((AV.s ([100, 97, 116, 97, 47, 120] : LB)) :: ((AV.s ([] : LB)) :: ((AV.s ([] : LB)) :: ((ai (0 : Int)) :: ((ai (0 : Int)) :: ((AV.lst 97 [] vw) :: ((ai (0 : Int)) :: ((ai (0 : Int)) :: ((AV.lst 59 [] vw) :: ((AV.s ([] : LB)) :: ((ai (0 : Int)) :: ((ai (0 : Int)) :: ((ai (0 : Int)) :: ((ai (0 : Int)) :: [])))))))))))))))))))) :: [])) (fun y6 => (bif y6 then (c15a y3 (bif (ieq y3 (0 : Int)) then (c15a y5 (bif (ieq y5 (1900 : Int)) then (c9a (6 : Int) ([] : LB) (0 : Int) (0 : Int) [] [] ([] : LB) ([] : LB) ([] : LB) (0 : Int) (0 : Int) [] (0 : Int) (0 : Int) [] ([] : LB) (1 : Int) (2 : Int) (0 : Int) (3 : Int) (fun y7 => (bif y7 then (c9a (9 : Int) ([] : LB) (0 : Int) (0 : Int) [] [] ([] : LB) ([] : LB) ([] : LB) (0 : Int) (0 : Int) [] (0 : Int) (0 : Int) [] ([] : LB) (0 : Int) (0 : Int) (0 : Int) (0 : Int) (fun y8 => (K (Bool.not y8)))) else (K false)))) else (K false))) else (K false))) else (K false)))) else (K false))) else (K false))))))))
noncomputable def f18a {α : Type} (k : Nat) (K : (Bool → Option α)) : Option α := T18a (f11a k) (f13a k) (f15a k) (f16a k) (f9a k) K
noncomputable def W18a (F : (Bool → OR) → OR) : Spec := mkSpec [] [] fun h h' K => F (fun y0 => K (.ok (AV.b y0) []))
theorem run18a (c11a : LR → (LB → Int → OR) → OR) (c13a : LB → (LR → Int → OR) → OR) (c15a : Int → (OR) → OR) (c16a : LR → LR → (Bool → OR) → OR) (c9a : Int → LB → Int → Int → LR → LR → LB → LB → LB → Int → Int → LR → Int → Int → LR → LB → Int → Int → Int → Int → (Bool → OR) → OR) (jp : JP) (k : Nat) (K : Res → OR) : runF Tryz.prog Gl (rhoL [(11, W11a c11a), (13, W13a c13a), (15, W15a c15a), (16, W16a c16a), (9, W9a c9a)]) (loopN k) jp Tryz.f18 [] [] K = T18a c11a c13a c15a c16a c9a (fun y0 => K (.ok (AV.b y0) [])) := by kernel_rfl
theorem ok18a (k : Nat) : SpecOK Tryz.prog Gl (W18a (f18a k)) 18 :=
  mk_ok' (ρ := (rhoL [(11, W11a (f11a k)), (13, W13a (f13a k)), (15, W15a (f15a k)), (16, W16a (f16a k)), (9, W9a (f9a k))])) (rhoL_ok (forall_cons (ok11a k) (forall_cons (ok13a k) (forall_cons (ok15a k) (forall_cons (ok16a k) (forall_cons (ok9a k) forall_nil)))))) Tryz_mixed (g := 18) (fn := Tryz.f18) (by kernel_rfl) (by kernel_rfl) k fun h h' K => (run18a (f11a k) (f13a k) (f15a k) (f16a k) (f9a k) jpId k K).trans rfl
noncomputable def T63al0 {α : Type} (r0 : Int → Option α) (K : (Bool → Option α)) (x0 : LB) (s0_2 : Int) : Option α :=
  (bif (ilt s0_2 (slen x0)) then (bif (ile (0 : Int) s0_2) then (bif (ilt s0_2 (slen x0)) then (bif (ige (sat x0 s0_2) (97 : Int)) then (bif (ile (sat x0 s0_2) (122 : Int)) then (r0 (wadd i6 s0_2 (1 : Int))) else (bif (ige (sat x0 s0_2) (48 : Int)) then (bif (ile (sat x0 s0_2) (57 : Int)) then (r0 (wadd i6 s0_2 (1 : Int))) else (bif (Bool.not (ieq (sat x0 s0_2) (95 : Int))) then (K false) else (r0 (wadd i6 s0_2 (1 : Int))))) else (bif (Bool.not (ieq (sat x0 s0_2) (95 : Int))) then (K false) else (r0 (wadd i6 s0_2 (1 : Int)))))) else (bif (ige (sat x0 s0_2) (48 : Int)) then (bif (ile (sat x0 s0_2) (57 : Int)) then (r0 (wadd i6 s0_2 (1 : Int))) else (bif (Bool.not (ieq (sat x0 s0_2) (95 : Int))) then (K false) else (r0 (wadd i6 s0_2 (1 : Int))))) else (bif (Bool.not (ieq (sat x0 s0_2) (95 : Int))) then (K false) else (r0 (wadd i6 s0_2 (1 : Int)))))) else none) else none) else (K true))
noncomputable def T63a {α : Type} (l0 : LB → Int → Option α) (K : (Bool → Option α)) (x0 : LB) : Option α :=
  (bif (ilt (slen x0) (1 : Int)) then (K false) else (bif (igt (slen x0) (16 : Int)) then (K false) else (l0 x0 (0 : Int))))
noncomputable def L63al0 {α : Type} (k : Nat) (K : (Bool → Option α)) (x0 : LB) : Nat → Int → Option α
  | 0, _ => none
  | n + 1, s0_2 => T63al0 (fun s0_2 => L63al0 k K x0 n s0_2) K x0 s0_2
noncomputable def f63a {α : Type} (k : Nat) (x0 : LB) (K : (Bool → Option α)) : Option α := T63a (fun x0 s0_2 => (L63al0 k K x0 k) s0_2) K x0
noncomputable def W63a (F : LB → (Bool → OR) → OR) : Spec := mkSpec [(.c .s)] [] fun h h' K => F (hS (lget h 0 .no)) (fun y0 => K (.ok (AV.b y0) []))
noncomputable def R63al0 (ρ : FuncId → Fn) (jp : JP) (k : Nat) (K : Res → OR) (x0 : LB) (n : Nat) (s0_2 : Int) : OR :=
  atLoop Tryz.prog Gl ρ (loopN k) jp Tryz.f63 0 K [1, 1, 0, 1, 0] [] n 11 [(AV.s x0), uk, (AV.b false), (ai s0_2), uk, uk, uk, uk, uk, uk, uk, uk, uk, uk, uk, uk, uk, uk, uk, uk, uk, uk, uk, uk, uk, uk, uk, uk, uk, uk, uk, uk, uk, uk, uk, uk, uk, uk, uk, uk, uk] [] []
theorem step63al0 (jp : JP) (k : Nat) (K : Res → OR) (x0 : LB) (n : Nat) (s0_2 : Int) : R63al0 (rhoL []) jp k K x0 (n + 1) s0_2 = T63al0 (fun s0_2 => R63al0 (rhoL []) jp k K x0 n s0_2) (fun y0 => K (.ok (AV.b y0) [])) x0 s0_2 := by kernel_rfl
theorem loop63al0 (k : Nat) (K : Res → OR) (x0 : LB) : ∀ (n : Nat) (s0_2 : Int), R63al0 (rhoL []) jpId k K x0 n s0_2 = L63al0 k (fun y0 => K (.ok (AV.b y0) [])) x0 n s0_2 := by
  intro n
  induction n generalizing x0 with
  | zero => intro s0_2; kernel_rfl
  | succ n ih =>
    intro s0_2
    rw [step63al0 jpId k K]
    simp only [ih]
    kernel_rfl
theorem run63a (jp : JP) (k : Nat) (K : Res → OR) (x0 : LB) : runF Tryz.prog Gl (rhoL []) (loopN k) jp Tryz.f63 [(AV.s x0)] [] K = T63a (fun x0 s0_2 => R63al0 (rhoL []) jp k K x0 k s0_2) (fun y0 => K (.ok (AV.b y0) [])) x0 := by kernel_rfl
theorem ok63a (k : Nat) : SpecOK Tryz.prog Gl (W63a (f63a k)) 63 :=
  mk_ok' (ρ := (rhoL [])) (rhoL_ok forall_nil) Tryz_mixed (g := 63) (fn := Tryz.f63) (by kernel_rfl) (by kernel_rfl) k fun h h' K => (run63a jpId k K (hS (lget h 0 .no))).trans (by simp only [loop63al0 k K]; rfl)
noncomputable def T64a {α : Type} (K : (Bool → Option α)) (x0 : Int) : Option α :=
  (bif (ige x0 (1 : Int)) then (K (ile x0 (3 : Int))) else (K false))
noncomputable def f64a {α : Type} (k : Nat) (x0 : Int) (K : (Bool → Option α)) : Option α := T64a K x0
noncomputable def W64a (F : Int → (Bool → OR) → OR) : Spec := mkSpec [(.c (.i i6))] [] fun h h' K => F (hI (lget h 0 .no)) (fun y0 => K (.ok (AV.b y0) []))
theorem run64a (jp : JP) (k : Nat) (K : Res → OR) (x0 : Int) : runF Tryz.prog Gl (rhoL []) (loopN k) jp Tryz.f64 [(ai x0)] [] K = T64a (fun y0 => K (.ok (AV.b y0) [])) x0 := by kernel_rfl
theorem ok64a (k : Nat) : SpecOK Tryz.prog Gl (W64a (f64a k)) 64 :=
  mk_ok' (ρ := (rhoL [])) (rhoL_ok forall_nil) Tryz_mixed (g := 64) (fn := Tryz.f64) (by kernel_rfl) (by kernel_rfl) k fun h h' K => (run64a jpId k K (hI (lget h 0 .no))).trans rfl
noncomputable def T38al1 {α : Type} (r1 : Int → Option α) (r0 : Int → Option α) (K : (Bool → Option α)) (s0_1 x0 : Int) (x1 : LR) (x2 s1_2 : Int) : Option α :=
  (bif (ilt s1_2 s0_1) then (bif (ile (0 : Int) s1_2) then (bif (ilt s1_2 (rlen x1)) then (bif (ieq (toI (lget (ldrop 0 (rget x1 s1_2)) 0 uk)) (toI (lget (rget x1 s0_1) 0 uk))) then (K false) else (bif (ile (0 : Int) s1_2) then (bif (ilt s1_2 (rlen x1)) then (bif (seq (toS (lget (ldrop 1 (rget x1 s1_2)) 0 uk)) (toS (lget (rget x1 s0_1) 1 uk))) then (K false) else (r1 (wadd i6 s1_2 (1 : Int)))) else none) else none)) else none) else none) else (r0 (wadd i6 s0_1 (1 : Int))))
noncomputable def T38al0 {α : Type} (c63a : LB → (Bool → Option α) → Option α) (c64a : Int → (Bool → Option α) → Option α) (l1 : Int → Int → LR → Int → Int → Option α) (r0 : Int → Option α) (K : (Bool → Option α)) (x0 : Int) (x1 : LR) (x2 s0_1 : Int) : Option α :=
  (bif (ilt s0_1 (rlen x1)) then (bif (ile (0 : Int) s0_1) then (bif (ilt s0_1 (rlen x1)) then (bif (ilt (toI (lget (rget x1 s0_1) 0 uk)) (1 : Int)) then (K false) else (bif (ige (toI (lget (rget x1 s0_1) 0 uk)) x2) then (K false) else (c63a (toS (lget (rget x1 s0_1) 1 uk)) (fun y0 => (bif (Bool.not y0) then (K false) else (c64a (toI (lget (rget x1 s0_1) 2 uk)) (fun y1 => (bif (Bool.not y1) then (K false) else (l1 s0_1 x0 x1 x2 (0 : Int)))))))))) else none) else none) else (K true))
noncomputable def T38a {α : Type} (l0 : Int → LR → Int → Int → Option α) (K : (Bool → Option α)) (x0 : Int) (x1 : LR) (x2 : Int) : Option α :=
  (bif (ilt x0 (0 : Int)) then (K false) else (bif (igt x0 (2147483647 : Int)) then (K false) else (bif (igt x2 (2147483647 : Int)) then (K false) else (bif (ilt (rlen x1) (1 : Int)) then (K false) else (bif (igt (rlen x1) (12 : Int)) then (K false) else (l0 x0 x1 x2 (0 : Int)))))))
noncomputable def L38al1 {α : Type} (k : Nat) (r0 : Int → Option α) (K : (Bool → Option α)) (s0_1 x0 : Int) (x1 : LR) (x2 : Int) : Nat → Int → Option α
  | 0, _ => none
  | n + 1, s1_2 => T38al1 (fun s1_2 => L38al1 k r0 K s0_1 x0 x1 x2 n s1_2) r0 K s0_1 x0 x1 x2 s1_2
noncomputable def L38al0 {α : Type} (k : Nat) (K : (Bool → Option α)) (x0 : Int) (x1 : LR) (x2 : Int) : Nat → Int → Option α
  | 0, _ => none
  | n + 1, s0_1 => T38al0 (f63a k) (f64a k) (fun s0_1 x0 x1 x2 s1_2 => (L38al1 k (fun s0_1 => L38al0 k K x0 x1 x2 n s0_1) K s0_1 x0 x1 x2 k) s1_2) (fun s0_1 => L38al0 k K x0 x1 x2 n s0_1) K x0 x1 x2 s0_1
noncomputable def f38a {α : Type} (k : Nat) (x0 : Int) (x1 : LR) (x2 : Int) (K : (Bool → Option α)) : Option α := T38a (fun x0 x1 x2 s0_1 => (L38al0 k K x0 x1 x2 k) s0_1) K x0 x1 x2
noncomputable def W38a (F : Int → LR → Int → (Bool → OR) → OR) : Spec := mkSpec [(.agg [(.i i6), (.l 97 vw), (.i i6)])] [] fun h h' K => F (hI (lget h 0 .no)) (hR (lget h 1 .no)) (hI (lget h 2 .no)) (fun y0 => K (.ok (AV.b y0) []))
noncomputable def R38al1 (ρ : FuncId → Fn) (jp : JP) (k : Nat) (K : Res → OR) (m0 : Nat) (s0_1 x0 : Int) (x1 : LR) (x2 : Int) (n : Nat) (s1_2 : Int) : OR :=
  atLoop Tryz.prog Gl ρ (loopN k) jp Tryz.f38 0 K [1, 1, 0, 1, 0, 0, 1, 0, 0, 1, 1, 1, 0] [(m0, 29)] n 65 [uk, (AV.ptr 0 0), (AV.b false), (ai s0_1), (AV.ptr 39 0), (ai s1_2), uk, uk, uk, uk, uk, uk, uk, uk, uk, uk, uk, uk, uk, uk, uk, uk, uk, uk, uk, uk, uk, uk, uk, uk, uk, uk, uk, uk, uk, uk, uk, uk, uk, uk, uk, uk, uk, uk, uk, uk, uk, uk, uk, uk, uk, uk, uk, uk, uk, uk, uk, uk, uk, uk, uk, uk, uk, uk, uk, uk, uk, uk, uk, uk, uk, uk, uk, uk, uk, uk, uk, uk, uk, uk, uk, uk, uk, uk, uk, uk, uk, uk, uk, uk] [(Prod.mk 0 (AObj.box [(ai x0), (AV.lst 97 x1 vw), (ai x2)])), (Prod.mk 39 (AObj.box [(ai (toI (lget (rget x1 s0_1) 0 uk))), (AV.s (toS (lget (rget x1 s0_1) 1 uk))), (ai (toI (lget (rget x1 s0_1) 2 uk)))]))] []
noncomputable def R38al0 (ρ : FuncId → Fn) (jp : JP) (k : Nat) (K : Res → OR) (x0 : Int) (x1 : LR) (x2 : Int) (n : Nat) (s0_1 : Int) : OR :=
  atLoop Tryz.prog Gl ρ (loopN k) jp Tryz.f38 0 K [1, 1, 0, 1, 0] [] n 29 [uk, (AV.ptr 0 0), (AV.b false), (ai s0_1), uk, uk, uk, uk, uk, uk, uk, uk, uk, uk, uk, uk, uk, uk, uk, uk, uk, uk, uk, uk, uk, uk, uk, uk, uk, uk, uk, uk, uk, uk, uk, uk, uk, uk, uk, uk, uk, uk, uk, uk, uk, uk, uk, uk, uk, uk, uk, uk, uk, uk, uk, uk, uk, uk, uk, uk, uk, uk, uk, uk, uk, uk, uk, uk, uk, uk, uk, uk, uk, uk, uk, uk, uk, uk, uk, uk, uk, uk, uk, uk, uk, uk, uk, uk, uk, uk] [(Prod.mk 0 (AObj.box [(ai x0), (AV.lst 97 x1 vw), (ai x2)]))] []
theorem step38al1 (c63a : LB → (Bool → OR) → OR) (c64a : Int → (Bool → OR) → OR) (jp : JP) (k : Nat) (K : Res → OR) (m0 : Nat) (s0_1 x0 : Int) (x1 : LR) (x2 : Int) (n : Nat) (s1_2 : Int) : R38al1 (rhoL [(63, W63a c63a), (64, W64a c64a)]) jp k K m0 s0_1 x0 x1 x2 (n + 1) s1_2 = T38al1 (fun s1_2 => R38al1 (rhoL [(63, W63a c63a), (64, W64a c64a)]) jp k K m0 s0_1 x0 x1 x2 n s1_2) (fun s0_1 => R38al0 (rhoL [(63, W63a c63a), (64, W64a c64a)]) jp k K x0 x1 x2 m0 s0_1) (fun y0 => K (.ok (AV.b y0) [])) s0_1 x0 x1 x2 s1_2 := by kernel_rfl
theorem step38al0 (c63a : LB → (Bool → OR) → OR) (c64a : Int → (Bool → OR) → OR) (jp : JP) (k : Nat) (K : Res → OR) (x0 : Int) (x1 : LR) (x2 : Int) (n : Nat) (s0_1 : Int) : R38al0 (rhoL [(63, W63a c63a), (64, W64a c64a)]) jp k K x0 x1 x2 (n + 1) s0_1 = T38al0 c63a c64a (fun s0_1 x0 x1 x2 s1_2 => R38al1 (rhoL [(63, W63a c63a), (64, W64a c64a)]) jp k K n s0_1 x0 x1 x2 k s1_2) (fun s0_1 => R38al0 (rhoL [(63, W63a c63a), (64, W64a c64a)]) jp k K x0 x1 x2 n s0_1) (fun y0 => K (.ok (AV.b y0) [])) x0 x1 x2 s0_1 := by kernel_rfl
theorem loop38al1 (k : Nat) (K : Res → OR) (m0 : Nat) (s0_1 x0 : Int) (x1 : LR) (x2 : Int) : ∀ (n : Nat) (s1_2 : Int), R38al1 (rhoL [(63, W63a (f63a k)), (64, W64a (f64a k))]) jpId k K m0 s0_1 x0 x1 x2 n s1_2 = L38al1 k (fun s0_1 => R38al0 (rhoL [(63, W63a (f63a k)), (64, W64a (f64a k))]) jpId k K x0 x1 x2 m0 s0_1) (fun y0 => K (.ok (AV.b y0) [])) s0_1 x0 x1 x2 n s1_2 := by
  intro n
  induction n generalizing m0 s0_1 x0 x1 x2 with
  | zero => intro s1_2; kernel_rfl
  | succ n ih =>
    intro s1_2
    rw [step38al1 (f63a k) (f64a k) jpId k K]
    simp only [ih]
    kernel_rfl
theorem loop38al0 (k : Nat) (K : Res → OR) (x0 : Int) (x1 : LR) (x2 : Int) : ∀ (n : Nat) (s0_1 : Int), R38al0 (rhoL [(63, W63a (f63a k)), (64, W64a (f64a k))]) jpId k K x0 x1 x2 n s0_1 = L38al0 k (fun y0 => K (.ok (AV.b y0) [])) x0 x1 x2 n s0_1 := by
  intro n
  induction n generalizing x0 x1 x2 with
  | zero => intro s0_1; kernel_rfl
  | succ n ih =>
    intro s0_1
    rw [step38al0 (f63a k) (f64a k) jpId k K]
    simp only [loop38al1 k K, ih]
    kernel_rfl
theorem run38a (c63a : LB → (Bool → OR) → OR) (c64a : Int → (Bool → OR) → OR) (jp : JP) (k : Nat) (K : Res → OR) (x0 : Int) (x1 : LR) (x2 : Int) : runF Tryz.prog Gl (rhoL [(63, W63a c63a), (64, W64a c64a)]) (loopN k) jp Tryz.f38 [(AV.agg [(ai x0), (AV.lst 97 x1 vw), (ai x2)])] [] K = T38a (fun x0 x1 x2 s0_1 => R38al0 (rhoL [(63, W63a c63a), (64, W64a c64a)]) jp k K x0 x1 x2 k s0_1) (fun y0 => K (.ok (AV.b y0) [])) x0 x1 x2 := by kernel_rfl
theorem ok38a (k : Nat) : SpecOK Tryz.prog Gl (W38a (f38a k)) 38 :=
  mk_ok' (ρ := (rhoL [(63, W63a (f63a k)), (64, W64a (f64a k))])) (rhoL_ok (forall_cons (ok63a k) (forall_cons (ok64a k) forall_nil))) Tryz_mixed (g := 38) (fn := Tryz.f38) (by kernel_rfl) (by kernel_rfl) k fun h h' K => (run38a (f63a k) (f64a k) jpId k K (hI (lget h 0 .no)) (hR (lget h 1 .no)) (hI (lget h 2 .no))).trans (by simp only [loop38al0 k K]; rfl)
noncomputable def T19al0 {α : Type} (c38a : Int → LR → Int → (Bool → Option α) → Option α) (r0 : Int → LR → Option α) (K : (LR → Int → Int → Option α)) (x0 x1 : LR) (s0_3 : Int) (s0_8 : LR) : Option α :=
  (bif (ilt s0_3 (rlen x0)) then (bif (ile (0 : Int) s0_3) then (bif (ilt s0_3 (rlen x0)) then (bif (ile (0 : Int) s0_3) then (bif (ilt s0_3 (rlen x1)) then (bif (room ((List.length s0_8) + 1) 32) then (r0 (wadd i6 s0_3 (1 : Int)) (radd s0_8 (((ai (wadd i6 s0_3 (1 : Int))) :: ((AV.s (toS (lget (rget x0 s0_3) 0 uk))) :: ((ai (toI (lget (rget x1 s0_3) 0 uk))) :: []))) :: []))) else none) else none) else none) else none) else none) else (c38a (0 : Int) s0_8 (wadd i6 (rlen x0) (1 : Int)) (fun y0 => (bif (Bool.not y0) then (K [] (0 : Int) (1200 : Int)) else (K s0_8 (wadd i6 (rlen x0) (1 : Int)) (0 : Int))))))
noncomputable def T19a {α : Type} (l0 : LR → LR → Int → LR → Option α) (K : (LR → Int → Int → Option α)) (x0 x1 : LR) : Option α :=
  (bif (ine (rlen x0) (rlen x1)) then (K [] (0 : Int) (1200 : Int)) else (l0 x0 x1 (0 : Int) []))
noncomputable def L19al0 {α : Type} (k : Nat) (K : (LR → Int → Int → Option α)) (x0 x1 : LR) : Nat → Int → LR → Option α
  | 0, _, _ => none
  | n + 1, s0_3, s0_8 => T19al0 (f38a k) (fun s0_3 s0_8 => L19al0 k K x0 x1 n s0_3 s0_8) K x0 x1 s0_3 s0_8
noncomputable def f19a {α : Type} (k : Nat) (x0 x1 : LR) (K : (LR → Int → Int → Option α)) : Option α := T19a (fun x0 x1 s0_3 s0_8 => (L19al0 k K x0 x1 k) s0_3 s0_8) K x0 x1
noncomputable def W19a (F : LR → LR → (LR → Int → Int → OR) → OR) : Spec := mkSpec [(.c (.l 9 vw)), (.c (.l 3 vw))] [] fun h h' K => F (hR (lget h 0 .no)) (hR (lget h 1 .no)) (fun y0 y1 y2 => K (.ok (AV.tup [(AV.agg [(ai (0 : Int)), (AV.lst 97 y0 vw), (ai y1)]), (ai y2)]) []))
noncomputable def R19al0 (ρ : FuncId → Fn) (jp : JP) (k : Nat) (K : Res → OR) (x0 x1 : LR) (n : Nat) (s0_3 : Int) (s0_8 : LR) : OR :=
  atLoop Tryz.prog Gl ρ (loopN k) jp Tryz.f19 0 K [1, 1, 1, 0, 1, 0] [] n 17 [(AV.lst 9 x0 vw), (AV.lst 3 x1 vw), uk, uk, (AV.ptr 0 0), (ai (0 : Int)), (AV.ptr 14 0), (ai s0_3), uk, uk, uk, uk, uk, uk, uk, uk, uk, uk, uk, uk, uk, uk, uk, uk, uk, uk, uk, uk, uk, uk, uk, uk, uk, uk, uk, uk, uk, uk, uk, uk, uk, uk, uk, uk, uk] [(Prod.mk 0 (AObj.box [(ai (0 : Int)), (AV.lst 97 [] (Mark.tk (Tok.ce 0 1) 0)), (ai (0 : Int))])), (Prod.mk 14 (AObj.box [(ai (0 : Int)), (AV.lst 97 s0_8 (Mark.tk (Tok.ce 14 1) 0)), (ai (wadd i6 (rlen x0) (1 : Int)))]))] []
theorem step19al0 (c38a : Int → LR → Int → (Bool → OR) → OR) (jp : JP) (k : Nat) (K : Res → OR) (x0 x1 : LR) (n : Nat) (s0_3 : Int) (s0_8 : LR) : R19al0 (rhoL [(38, W38a c38a)]) jp k K x0 x1 (n + 1) s0_3 s0_8 = T19al0 c38a (fun s0_3 s0_8 => R19al0 (rhoL [(38, W38a c38a)]) jp k K x0 x1 n s0_3 s0_8) (fun y0 y1 y2 => K (.ok (AV.tup [(AV.agg [(ai (0 : Int)), (AV.lst 97 y0 vw), (ai y1)]), (ai y2)]) [])) x0 x1 s0_3 s0_8 := by kernel_rfl
theorem loop19al0 (k : Nat) (K : Res → OR) (x0 x1 : LR) : ∀ (n : Nat) (s0_3 : Int) (s0_8 : LR), R19al0 (rhoL [(38, W38a (f38a k))]) jpId k K x0 x1 n s0_3 s0_8 = L19al0 k (fun y0 y1 y2 => K (.ok (AV.tup [(AV.agg [(ai (0 : Int)), (AV.lst 97 y0 vw), (ai y1)]), (ai y2)]) [])) x0 x1 n s0_3 s0_8 := by
  intro n
  induction n generalizing x0 x1 with
  | zero => intro s0_3 s0_8; kernel_rfl
  | succ n ih =>
    intro s0_3 s0_8
    rw [step19al0 (f38a k) jpId k K]
    simp only [ih]
    kernel_rfl
theorem run19a (c38a : Int → LR → Int → (Bool → OR) → OR) (jp : JP) (k : Nat) (K : Res → OR) (x0 x1 : LR) : runF Tryz.prog Gl (rhoL [(38, W38a c38a)]) (loopN k) jp Tryz.f19 [(AV.lst 9 x0 vw), (AV.lst 3 x1 vw)] [] K = T19a (fun x0 x1 s0_3 s0_8 => R19al0 (rhoL [(38, W38a c38a)]) jp k K x0 x1 k s0_3 s0_8) (fun y0 y1 y2 => K (.ok (AV.tup [(AV.agg [(ai (0 : Int)), (AV.lst 97 y0 vw), (ai y1)]), (ai y2)]) [])) x0 x1 := by kernel_rfl
theorem ok19a (k : Nat) : SpecOK Tryz.prog Gl (W19a (f19a k)) 19 :=
  mk_ok' (ρ := (rhoL [(38, W38a (f38a k))])) (rhoL_ok (forall_cons (ok38a k) forall_nil)) Tryz_mixed (g := 19) (fn := Tryz.f19) (by kernel_rfl) (by kernel_rfl) k fun h h' K => (run19a (f38a k) jpId k K (hR (lget h 0 .no)) (hR (lget h 1 .no))).trans (by simp only [loop19al0 k K]; rfl)
end Go.AI

set_option linter.unusedVariables false
set_option linter.unusedSimpArgs false
set_option maxRecDepth 100000
namespace Go.AI
open Go.Proofs
noncomputable def T20al0 {α : Type} (r0 : Int → LR → Option α) (K : (LB → Option α)) (x0 s0_2 : Int) (s0_3 : LR) : Option α :=
  (bif (igt s0_2 (0 : Int)) then (bif (room (1 + (List.length s0_3)) 1) then (r0 (wquo IntKind.u64 s0_2 (10 : Int)) (radd (((AV.i IntKind.u8 (wcv IntKind.u8 (wadd IntKind.u64 (48 : Int) (wrem s0_2 (10 : Int))))) :: []) :: []) s0_3)) else none) else (bif (ieq (rlen s0_3) (0 : Int)) then (bif (room (1 + (List.length s0_3)) 1) then (r0 (wquo IntKind.u64 s0_2 (10 : Int)) (radd (((AV.i IntKind.u8 (wcv IntKind.u8 (wadd IntKind.u64 (48 : Int) (wrem s0_2 (10 : Int))))) :: []) :: []) s0_3)) else none) else (bif (ilt x0 (0 : Int)) then (bif (room (1 + (List.length s0_3)) 1) then (K (bytesOf (radd (((AV.i IntKind.u8 (45 : Int)) :: []) :: []) s0_3))) else none) else (K (bytesOf s0_3)))))
noncomputable def T20aj2 {α : Type} (l0 : Int → Int → LR → Option α) (K : (LB → Option α)) (x0 t2_2 : Int) : Option α :=
  (l0 x0 t2_2 [])
noncomputable def T20a {α : Type} (j2 : Int → Int → Option α) (K : (LB → Option α)) (x0 : Int) : Option α :=
  (bif (ilt x0 (0 : Int)) then (j2 x0 (wadd IntKind.u64 (wcv IntKind.u64 (wneg i6 (wadd i6 x0 (1 : Int)))) (1 : Int))) else (j2 x0 (wcv IntKind.u64 x0)))
noncomputable def L20al0 {α : Type} (k : Nat) (K : (LB → Option α)) (x0 : Int) : Nat → Int → LR → Option α
  | 0, _, _ => none
  | n + 1, s0_2, s0_3 => T20al0 (fun s0_2 s0_3 => L20al0 k K x0 n s0_2 s0_3) K x0 s0_2 s0_3
noncomputable def L20aj2 {α : Type} (k : Nat) (K : (LB → Option α)) (x0 t2_2 : Int) : Option α := T20aj2 (fun x0 s0_2 s0_3 => (L20al0 k K x0 k) s0_2 s0_3) K x0 t2_2
noncomputable def f20a {α : Type} (k : Nat) (x0 : Int) (K : (LB → Option α)) : Option α := T20a (fun x0 t2_2 => (L20aj2 k K x0) t2_2) K x0
noncomputable def W20a (F : Int → (LB → OR) → OR) : Spec := mkSpec [(.c (.i i6))] [] fun h h' K => F (hI (lget h 0 .no)) (fun y0 => K (.ok (AV.s y0) []))
noncomputable def R20al0 (ρ : FuncId → Fn) (jp : JP) (k : Nat) (K : Res → OR) (x0 : Int) (n : Nat) (s0_2 : Int) (s0_3 : LR) : OR :=
  atLoop Tryz.prog Gl ρ (loopN k) jp Tryz.f20 0 K [1, 1, 1, 1, 0, 0] [] n 13 [(ai x0), uk, (AV.s ([] : LB)), (AV.i IntKind.u64 s0_2), (AV.lst 5 s0_3 (Mark.tk (Tok.sl 4) 0)), uk, uk, uk, uk, uk, uk, uk, uk, uk, uk, uk, uk, uk, uk, uk, uk, uk, uk, uk, uk, uk, uk, uk, uk, uk, uk, uk, uk, uk, uk, uk, uk] [] []
noncomputable def R20aj2 (ρ : FuncId → Fn) (jp : JP) (k : Nat) (K : Res → OR) (x0 t2_2 : Int) : OR :=
  atJoin Tryz.prog Gl ρ (loopN k) jp Tryz.f20 0 K [1, 1] [] 12 [(ai x0), uk, (AV.s ([] : LB)), (AV.i IntKind.u64 t2_2), uk, uk, uk, uk, uk, uk, uk, uk, uk, uk, uk, uk, uk, uk, uk, uk, uk, uk, uk, uk, uk, uk, uk, uk, uk, uk, uk, uk, uk, uk, uk, uk, uk] [] []
noncomputable def RR20aj2 (ρ : FuncId → Fn) (jp : JP) (k : Nat) (K : Res → OR) (x0 t2_2 : Int) : OR :=
  atRest Tryz.prog Gl ρ (loopN k) jp Tryz.f20 0 K [1, 1] [] 12 [(ai x0), uk, (AV.s ([] : LB)), (AV.i IntKind.u64 t2_2), uk, uk, uk, uk, uk, uk, uk, uk, uk, uk, uk, uk, uk, uk, uk, uk, uk, uk, uk, uk, uk, uk, uk, uk, uk, uk, uk, uk, uk, uk, uk, uk, uk] [] []
theorem step20al0 (jp : JP) (k : Nat) (K : Res → OR) (x0 : Int) (n : Nat) (s0_2 : Int) (s0_3 : LR) : R20al0 (rhoL []) jp k K x0 (n + 1) s0_2 s0_3 = T20al0 (fun s0_2 s0_3 => R20al0 (rhoL []) jp k K x0 n s0_2 s0_3) (fun y0 => K (.ok (AV.s y0) [])) x0 s0_2 s0_3 := by kernel_rfl
theorem step20aj2 (jp : JP) (k : Nat) (K : Res → OR) (x0 t2_2 : Int) : RR20aj2 (rhoL []) jp k K x0 t2_2 = T20aj2 (fun x0 s0_2 s0_3 => R20al0 (rhoL []) jp k K x0 k s0_2 s0_3) (fun y0 => K (.ok (AV.s y0) [])) x0 t2_2 := by kernel_rfl
theorem loop20al0 (k : Nat) (K : Res → OR) (x0 : Int) : ∀ (n : Nat) (s0_2 : Int) (s0_3 : LR), R20al0 (rhoL []) jpId k K x0 n s0_2 s0_3 = L20al0 k (fun y0 => K (.ok (AV.s y0) [])) x0 n s0_2 s0_3 := by
  intro n
  induction n generalizing x0 with
  | zero => intro s0_2 s0_3; kernel_rfl
  | succ n ih =>
    intro s0_2 s0_3
    rw [step20al0 jpId k K]
    simp only [ih]
    kernel_rfl
theorem loop20aj2 (k : Nat) (K : Res → OR) (x0 t2_2 : Int) : R20aj2 (rhoL []) jpId k K x0 t2_2 = L20aj2 k (fun y0 => K (.ok (AV.s y0) [])) x0 t2_2 :=
  (atJoin_id (P := Tryz.prog)).trans ((step20aj2 jpId k K x0 t2_2).trans (by simp only [loop20al0 k K]; first | (unfold L20aj2; with_reducible rfl) | (unfold L20aj2 T20aj2; with_reducible rfl) | kernel_rfl))
theorem run20a (jp : JP) (k : Nat) (K : Res → OR) (x0 : Int) : runF Tryz.prog Gl (rhoL []) (loopN k) jp Tryz.f20 [(ai x0)] [] K = T20a (fun x0 t2_2 => R20aj2 (rhoL []) jp k K x0 t2_2) (fun y0 => K (.ok (AV.s y0) [])) x0 := by kernel_rfl
theorem ok20a (k : Nat) : SpecOK Tryz.prog Gl (W20a (f20a k)) 20 :=
  mk_ok' (ρ := (rhoL [])) (rhoL_ok forall_nil) Tryz_mixed (g := 20) (fn := Tryz.f20) (by kernel_rfl) (by kernel_rfl) k fun h h' K => (run20a jpId k K (hI (lget h 0 .no))).trans (by simp only [loop20aj2 k K]; rfl)
noncomputable def h5a_0 (y8 y9 : LB) : Bool :=
  (sroom (sadd (sadd (sadd ([123, 34, 105, 110, 102, 111, 34, 58, 123, 34, 99, 108, 105, 101, 110, 116, 34, 58] : LB) y9) ([44, 34, 115, 101, 113, 34, 58] : LB)) y8) ([44, 34, 111, 112, 34, 58, 50, 44, 34, 116, 105, 109, 101, 34, 58] : LB))
noncomputable def h5a_1 (y8 y9 : LB) : LB :=
  (sadd (sadd (sadd (sadd ([123, 34, 105, 110, 102, 111, 34, 58, 123, 34, 99, 108, 105, 101, 110, 116, 34, 58] : LB) y9) ([44, 34, 115, 101, 113, 34, 58] : LB)) y8) ([44, 34, 111, 112, 34, 58, 50, 44, 34, 116, 105, 109, 101, 34, 58] : LB))
noncomputable def h5a_2 (y7 y8 : LB) : Bool :=
  (sroom (sadd (sadd (sadd ([123, 34, 109, 97, 114, 107, 34, 58, 123, 34, 112, 97, 116, 104, 34, 58, 34, 109, 34, 44, 34, 102, 105, 108, 101, 34, 58, 34, 102] : LB) y7) ([34, 44, 34, 114, 111, 119, 115, 34, 58] : LB)) y8) ([125, 125] : LB))
noncomputable def h5a_3 (y7 y8 : LB) : Bool :=
  (sroom (sadd (sadd (sadd ([123, 34, 115, 112, 101, 99, 34, 58, 123, 34, 105, 100, 34, 58] : LB) y7) ([44, 34, 102, 105, 101, 108, 100, 115, 34, 58, 91, 123, 34, 115, 111, 117, 114, 99, 101, 34, 58] : LB)) y8) ([44, 34, 116, 114, 97, 110, 115, 34, 58, 49, 44, 34, 112, 97, 114, 97, 109, 34, 58, 55, 125, 93, 125, 125] : LB))
noncomputable def h5a_4 (y8 : LB) : Bool :=
  (sroom (sadd ([123, 34, 97, 100, 100, 34, 58, 123, 34, 112, 97, 116, 104, 34, 58, 34, 112, 34, 44, 34, 114, 111, 119, 115, 34, 58] : LB) y8) ([44, 34, 115, 112, 101, 99, 34, 58, 48, 44, 34, 112, 97, 114, 116, 34, 58, 91, 110, 117, 108, 108, 44, 34, 92, 110, 34, 93, 44, 34, 115, 116, 97, 116, 115, 34, 58, 91, 123, 34, 99, 111, 108, 34, 58, 50, 44, 34, 110, 117, 108, 108, 115, 34, 58, 48, 44, 34, 109, 105, 110, 34, 58] : LB))
noncomputable def h5a_5 (y8 : LB) : LB :=
  (sadd (sadd ([123, 34, 97, 100, 100, 34, 58, 123, 34, 112, 97, 116, 104, 34, 58, 34, 112, 34, 44, 34, 114, 111, 119, 115, 34, 58] : LB) y8) ([44, 34, 115, 112, 101, 99, 34, 58, 48, 44, 34, 112, 97, 114, 116, 34, 58, 91, 110, 117, 108, 108, 44, 34, 92, 110, 34, 93, 44, 34, 115, 116, 97, 116, 115, 34, 58, 91, 123, 34, 99, 111, 108, 34, 58, 50, 44, 34, 110, 117, 108, 108, 115, 34, 58, 48, 44, 34, 109, 105, 110, 34, 58] : LB))
noncomputable def h5a_6 (x0 x1 x2 : Int) (y1 : LR) (y2 : Int) (y4 y5 y6 : LB) : LR :=
  (rsub (((ai (6 : Int)) :: ((AV.s ([] : LB)) :: ((ai (0 : Int)) :: ((ai (0 : Int)) :: ((AV.lst 61 [] vw) :: ((AV.lst 63 [] vw) :: ((AV.s ([] : LB)) :: ((AV.s ([] : LB)) :: ((AV.s ([] : LB)) :: ((ai (0 : Int)) :: ((ai (0 : Int)) :: ((AV.lst 97 [] vw) :: ((ai (0 : Int)) :: ((ai (0 : Int)) :: ((AV.lst 59 [] vw) :: ((AV.s ([] : LB)) :: ((ai (wand i6 (wand i6 x0 (1023 : Int)) (7 : Int))) :: ((ai (wadd i6 (1 : Int) (wand i6 x1 (1023 : Int)))) :: ((ai (2 : Int)) :: ((ai (wand i6 x0 (1023 : Int))) :: [])))))))))))))))))))) :: (((ai (1 : Int)) :: ((AV.s ([] : LB)) :: ((ai (0 : Int)) :: ((ai (0 : Int)) :: ((AV.lst 61 [] vw) :: ((AV.lst 63 [] vw) :: ((AV.s (sadd ([100, 97, 116, 97, 47] : LB) y4)) :: ((AV.s ([] : LB)) :: ((AV.s ([] : LB)) :: ((ai (0 : Int)) :: ((ai (0 : Int)) :: ((AV.lst 97 [] vw) :: ((ai (0 : Int)) :: ((ai (0 : Int)) :: ((AV.lst 59 [] vw) :: ((AV.s ([] : LB)) :: ((ai (0 : Int)) :: ((ai (0 : Int)) :: ((ai (0 : Int)) :: ((ai (0 : Int)) :: [])))))))))))))))))))) :: (((ai (2 : Int)) :: ((AV.s ([] : LB)) :: ((ai (0 : Int)) :: ((ai (0 : Int)) :: ((AV.lst 61 [] vw) :: ((AV.lst 63 [] vw) :: ((AV.s ([] : LB)) :: ((AV.s ([109] : LB)) :: ((AV.s (sadd ([102] : LB) y5)) :: ((ai (wadd i6 (1 : Int) (wand i6 x1 (1023 : Int)))) :: ((ai (0 : Int)) :: ((AV.lst 97 [] vw) :: ((ai (0 : Int)) :: ((ai (0 : Int)) :: ((AV.lst 59 [] vw) :: ((AV.s ([] : LB)) :: ((ai (0 : Int)) :: ((ai (0 : Int)) :: ((ai (0 : Int)) :: ((ai (0 : Int)) :: [])))))))))))))))))))) :: (((ai (3 : Int)) :: ((AV.s ([] : LB)) :: ((ai (0 : Int)) :: ((ai (0 : Int)) :: ((AV.lst 61 [] vw) :: ((AV.lst 63 [] vw) :: ((AV.s ([] : LB)) :: ((AV.s ([] : LB)) :: ((AV.s ([] : LB)) :: ((ai (0 : Int)) :: ((ai (0 : Int)) :: ((AV.lst 97 y1 vw) :: ((ai y2) :: ((ai (0 : Int)) :: ((AV.lst 59 [] vw) :: ((AV.s ([] : LB)) :: ((ai (0 : Int)) :: ((ai (0 : Int)) :: ((ai (0 : Int)) :: ((ai (0 : Int)) :: [])))))))))))))))))))) :: (((ai (4 : Int)) :: ((AV.s ([] : LB)) :: ((ai (0 : Int)) :: ((ai (0 : Int)) :: ((AV.lst 61 [] vw) :: ((AV.lst 63 [] vw) :: ((AV.s ([] : LB)) :: ((AV.s ([] : LB)) :: ((AV.s ([] : LB)) :: ((ai (0 : Int)) :: ((ai (0 : Int)) :: ((AV.lst 97 [] vw) :: ((ai (0 : Int)) :: ((ai (wand i6 x0 (1023 : Int))) :: ((AV.lst 59 (((ai (wadd i6 (1 : Int) (wand i6 x1 (1023 : Int)))) :: ((ai (1 : Int)) :: ((ai (7 : Int)) :: []))) :: []) vw) :: ((AV.s ([] : LB)) :: ((ai (0 : Int)) :: ((ai (0 : Int)) :: ((ai (0 : Int)) :: ((ai (0 : Int)) :: [])))))))))))))))))))) :: (((ai (5 : Int)) :: ((AV.s ([] : LB)) :: ((ai (0 : Int)) :: ((ai (0 : Int)) :: ((AV.lst 61 [] vw) :: ((AV.lst 63 [] vw) :: ((AV.s ([] : LB)) :: ((AV.s ([] : LB)) :: ((AV.s ([] : LB)) :: ((ai (0 : Int)) :: ((ai (0 : Int)) :: ((AV.lst 97 [] vw) :: ((ai (0 : Int)) :: ((ai (0 : Int)) :: ((AV.lst 59 [] vw) :: ((AV.s (sadd ([116] : LB) y6)) :: ((ai (0 : Int)) :: ((ai (0 : Int)) :: ((ai (0 : Int)) :: ((ai (0 : Int)) :: [])))))))))))))))))))) :: (((ai (0 : Int)) :: ((AV.s ([112] : LB)) :: ((ai (wadd i6 (1 : Int) (wand i6 x1 (1023 : Int)))) :: ((ai (0 : Int)) :: ((AV.lst 61 (((ai (0 : Int)) :: ((ai (0 : Int)) :: ((AV.b false) :: ((AV.s ([] : LB)) :: [])))) :: (((ai (3 : Int)) :: ((ai (0 : Int)) :: ((AV.b false) :: ((AV.s ([10] : LB)) :: [])))) :: [])) vw) :: ((AV.lst 63 (((ai (2 : Int)) :: ((ai (0 : Int)) :: ((ai (1 : Int)) :: ((ai (wneg i6 (wand i6 x0 (1023 : Int)))) :: ((AV.b false) :: ((AV.s ([] : LB)) :: ((ai (2 : Int)) :: ((ai (0 : Int)) :: ((AV.b true) :: ((AV.s ([] : LB)) :: [])))))))))) :: []) vw) :: ((AV.s ([] : LB)) :: ((AV.s ([] : LB)) :: ((AV.s ([] : LB)) :: ((ai (0 : Int)) :: ((ai (0 : Int)) :: ((AV.lst 97 [] vw) :: ((ai (0 : Int)) :: ((ai (0 : Int)) :: ((AV.lst 59 [] vw) :: ((AV.s ([] : LB)) :: ((ai (0 : Int)) :: ((ai (0 : Int)) :: ((ai (0 : Int)) :: ((ai (0 : Int)) :: [])))))))))))))))))))) :: []))))))) (wcv i6 (wrem (wcv IntKind.u64 x2) (7 : Int))) (wadd i6 (wcv i6 (wrem (wcv IntKind.u64 x2) (7 : Int))) (1 : Int)))
noncomputable def h5a_7 (y7 y8 : LB) : LB :=
  (sadd (sadd (sadd (sadd ([123, 34, 109, 97, 114, 107, 34, 58, 123, 34, 112, 97, 116, 104, 34, 58, 34, 109, 34, 44, 34, 102, 105, 108, 101, 34, 58, 34, 102] : LB) y7) ([34, 44, 34, 114, 111, 119, 115, 34, 58] : LB)) y8) ([125, 125] : LB))
noncomputable def h5a_8 (y7 y8 : LB) : LB :=
  (sadd (sadd (sadd (sadd ([123, 34, 115, 112, 101, 99, 34, 58, 123, 34, 105, 100, 34, 58] : LB) y7) ([44, 34, 102, 105, 101, 108, 100, 115, 34, 58, 91, 123, 34, 115, 111, 117, 114, 99, 101, 34, 58] : LB)) y8) ([44, 34, 116, 114, 97, 110, 115, 34, 58, 49, 44, 34, 112, 97, 114, 97, 109, 34, 58, 55, 125, 93, 125, 125] : LB))
noncomputable def h5a_9 (x2 : Int) (y10 y7 y8 y9 : LB) : List AV :=
  (rget (((AV.s (sadd (sadd (h5a_1 y8 y9) y7) ([125, 125] : LB))) :: []) :: (((AV.s (sadd (sadd ([123, 34, 114, 101, 109, 111, 118, 101, 34, 58, 34, 100, 97, 116, 97, 47] : LB) y7) ([34, 125] : LB))) :: []) :: (((AV.s (h5a_7 y7 y8)) :: []) :: (((AV.s ([123, 34, 115, 99, 104, 101, 109, 97, 34, 58, 123, 34, 105, 100, 34, 58, 48, 44, 34, 110, 101, 120, 116, 34, 58, 50, 44, 34, 99, 111, 108, 117, 109, 110, 115, 34, 58, 91, 123, 34, 105, 100, 34, 58, 49, 44, 34, 110, 97, 109, 101, 34, 58, 34, 113, 34, 44, 34, 107, 105, 110, 100, 34, 58, 50, 125, 93, 125, 125] : LB)) :: []) :: (((AV.s (h5a_8 y7 y8)) :: []) :: (((AV.s (sadd (sadd ([123, 34, 116, 120, 110, 34, 58, 34, 116] : LB) y7) ([34, 125] : LB))) :: []) :: (((AV.s (sadd (sadd (h5a_5 y8) y10) ([44, 34, 109, 97, 120, 34, 58, 116, 114, 117, 101, 125, 93, 125, 125] : LB))) :: []) :: []))))))) (wcv i6 (wrem (wcv IntKind.u64 x2) (7 : Int))))
noncomputable def T5a {α : Type} (c18a : (Bool → Option α) → Option α) (c19a : LR → LR → (LR → Int → Int → Option α) → Option α) (c20a : Int → (LB → Option α) → Option α) (c11a : LR → (LB → Int → Option α) → Option α) (c15a : Int → (Option α) → Option α) (K : (Bool → Option α)) (x0 x1 x2 : Int) : Option α :=
  (c18a (fun y0 => (bif (Bool.not y0) then (K false) else (c19a (((AV.s ([113] : LB)) :: []) :: []) (((ai (2 : Int)) :: []) :: []) (fun y1 y2 y3 => (c20a (wand i6 x0 (1023 : Int)) (fun y4 => (bif (sroom ([100, 97, 116, 97, 47] : LB) y4) then (c20a (wand i6 x0 (1023 : Int)) (fun y5 => (bif (sroom ([102] : LB) y5) then (c20a (wand i6 x0 (1023 : Int)) (fun y6 => (bif (sroom ([116] : LB) y6) then (c20a (wand i6 x0 (1023 : Int)) (fun y7 => (c20a (wadd i6 (1 : Int) (wand i6 x1 (1023 : Int))) (fun y8 => (c20a (wand i6 (wand i6 x0 (1023 : Int)) (7 : Int)) (fun y9 => (bif (sroom ([123, 34, 105, 110, 102, 111, 34, 58, 123, 34, 99, 108, 105, 101, 110, 116, 34, 58] : LB) y9) then (bif (sroom (sadd ([123, 34, 105, 110, 102, 111, 34, 58, 123, 34, 99, 108, 105, 101, 110, 116, 34, 58] : LB) y9) ([44, 34, 115, 101, 113, 34, 58] : LB)) then (bif (sroom (sadd (sadd ([123, 34, 105, 110, 102, 111, 34, 58, 123, 34, 99, 108, 105, 101, 110, 116, 34, 58] : LB) y9) ([44, 34, 115, 101, 113, 34, 58] : LB)) y8) then (bif (h5a_0 y8 y9) then (bif (sroom (h5a_1 y8 y9) y7) then (bif (sroom (sadd (h5a_1 y8 y9) y7) ([125, 125] : LB)) then (bif (sroom ([123, 34, 114, 101, 109, 111, 118, 101, 34, 58, 34, 100, 97, 116, 97, 47] : LB) y7) then (bif (sroom (sadd ([123, 34, 114, 101, 109, 111, 118, 101, 34, 58, 34, 100, 97, 116, 97, 47] : LB) y7) ([34, 125] : LB)) then (bif (sroom ([123, 34, 109, 97, 114, 107, 34, 58, 123, 34, 112, 97, 116, 104, 34, 58, 34, 109, 34, 44, 34, 102, 105, 108, 101, 34, 58, 34, 102] : LB) y7) then (bif (sroom (sadd ([123, 34, 109, 97, 114, 107, 34, 58, 123, 34, 112, 97, 116, 104, 34, 58, 34, 109, 34, 44, 34, 102, 105, 108, 101, 34, 58, 34, 102] : LB) y7) ([34, 44, 34, 114, 111, 119, 115, 34, 58] : LB)) then (bif (sroom (sadd (sadd ([123, 34, 109, 97, 114, 107, 34, 58, 123, 34, 112, 97, 116, 104, 34, 58, 34, 109, 34, 44, 34, 102, 105, 108, 101, 34, 58, 34, 102] : LB) y7) ([34, 44, 34, 114, 111, 119, 115, 34, 58] : LB)) y8) then (bif (h5a_2 y7 y8) then (bif (sroom ([123, 34, 115, 112, 101, 99, 34, 58, 123, 34, 105, 100, 34, 58] : LB) y7) then (bif (sroom (sadd ([123, 34, 115, 112, 101, 99, 34, 58, 123, 34, 105, 100, 34, 58] : LB) y7) ([44, 34, 102, 105, 101, 108, 100, 115, 34, 58, 91, 123, 34, 115, 111, 117, 114, 99, 101, 34, 58] : LB)) then (bif (sroom (sadd (sadd ([123, 34, 115, 112, 101, 99, 34, 58, 123, 34, 105, 100, 34, 58] : LB) y7) ([44, 34, 102, 105, 101, 108, 100, 115, 34, 58, 91, 123, 34, 115, 111, 117, 114, 99, 101, 34, 58] : LB)) y8) then (bif (h5a_3 y7 y8) then (bif (sroom ([123, 34, 116, 120, 110, 34, 58, 34, 116] : LB) y7) then (bif (sroom (sadd ([123, 34, 116, 120, 110, 34, 58, 34, 116] : LB) y7) ([34, 125] : LB)) then (bif (sroom ([123, 34, 97, 100, 100, 34, 58, 123, 34, 112, 97, 116, 104, 34, 58, 34, 112, 34, 44, 34, 114, 111, 119, 115, 34, 58] : LB) y8) then (bif (h5a_4 y8) then (c20a (wneg i6 (wand i6 x0 (1023 : Int))) (fun y10 => (bif (sroom (h5a_5 y8) y10) then (bif (sroom (sadd (h5a_5 y8) y10) ([44, 34, 109, 97, 120, 34, 58, 116, 114, 117, 101, 125, 93, 125, 125] : LB)) then (bif (ile (0 : Int) (wcv i6 (wrem (wcv IntKind.u64 x2) (7 : Int)))) then (bif (ile (wcv i6 (wrem (wcv IntKind.u64 x2) (7 : Int))) (wadd i6 (wcv i6 (wrem (wcv IntKind.u64 x2) (7 : Int))) (1 : Int))) then (bif (ile (wadd i6 (wcv i6 (wrem (wcv IntKind.u64 x2) (7 : Int))) (1 : Int)) (7 : Int)) then (c11a (h5a_6 x0 x1 x2 y1 y2 y4 y5 y6) (fun y11 y12 => (c11a [] (fun y13 y14 => (c15a y12 (bif (ieq y12 (0 : Int)) then (bif (ile (0 : Int) (wcv i6 (wrem (wcv IntKind.u64 x2) (7 : Int)))) then (bif (ilt (wcv i6 (wrem (wcv IntKind.u64 x2) (7 : Int))) (7 : Int)) then (bif (sroom ([91] : LB) (toS (lget (h5a_9 x2 y10 y7 y8 y9) 0 uk))) then (bif (sroom (sadd ([91] : LB) (toS (lget (h5a_9 x2 y10 y7 y8 y9) 0 uk))) ([93] : LB)) then (bif (seq y11 (sadd (sadd ([91] : LB) (toS (lget (h5a_9 x2 y10 y7 y8 y9) 0 uk))) ([93] : LB))) then (c15a y14 (bif (ieq y14 (0 : Int)) then (K (seq y13 ([91, 93] : LB))) else (K false))) else (K false)) else none) else none) else none) else none) else (K false))))))) else none) else none) else none) else none) else none))) else none) else none) else none) else none) else none) else none) else none) else none) else none) else none) else none) else none) else none) else none) else none) else none) else none) else none) else none) else none))))))) else none))) else none))) else none))))))))
noncomputable def f5a {α : Type} (k : Nat) (x0 x1 x2 : Int) (K : (Bool → Option α)) : Option α := T5a (f18a k) (f19a k) (f20a k) (f11a k) (f15a k) K x0 x1 x2
noncomputable def W5a (F : Int → Int → Int → (Bool → OR) → OR) : Spec := mkSpec [(.c (.i i6)), (.c (.i i6)), (.c (.i i6))] [] fun h h' K => F (hI (lget h 0 .no)) (hI (lget h 1 .no)) (hI (lget h 2 .no)) (fun y0 => K (.ok (AV.b y0) []))
theorem run5a (c18a : (Bool → OR) → OR) (c19a : LR → LR → (LR → Int → Int → OR) → OR) (c20a : Int → (LB → OR) → OR) (c11a : LR → (LB → Int → OR) → OR) (c15a : Int → (OR) → OR) (jp : JP) (k : Nat) (K : Res → OR) (x0 x1 x2 : Int) : runF Tryz.prog Gl (rhoL [(18, W18a c18a), (19, W19a c19a), (20, W20a c20a), (11, W11a c11a), (15, W15a c15a)]) (loopN k) jp Tryz.f5 [(ai x0), (ai x1), (ai x2)] [] K = T5a c18a c19a c20a c11a c15a (fun y0 => K (.ok (AV.b y0) [])) x0 x1 x2 := by kernel_rfl
theorem ok5a (k : Nat) : SpecOK Tryz.prog Gl (W5a (f5a k)) 5 :=
  mk_ok' (ρ := (rhoL [(18, W18a (f18a k)), (19, W19a (f19a k)), (20, W20a (f20a k)), (11, W11a (f11a k)), (15, W15a (f15a k))])) (rhoL_ok (forall_cons (ok18a k) (forall_cons (ok19a k) (forall_cons (ok20a k) (forall_cons (ok11a k) (forall_cons (ok15a k) forall_nil)))))) Tryz_mixed (g := 5) (fn := Tryz.f5) (by kernel_rfl) (by kernel_rfl) k fun h h' K => (run5a (f18a k) (f19a k) (f20a k) (f11a k) (f15a k) jpId k K (hI (lget h 0 .no)) (hI (lget h 1 .no)) (hI (lget h 2 .no))).trans rfl
end Go.AI

/-
  PLAIN LAWS: what the printed functions come to. Small facts; which texts and numbers may be.
-/
set_option maxRecDepth 100000
set_option linter.unusedVariables false
set_option linter.unusedSimpArgs false
namespace Go.AI
open Go.Proofs

/-! ### small facts -/
theorem push2 {α : Type} {β : Type} (K : β → Option α) (b : Bool) (x y : β) : (bif b then K x else K y) = K (bif b then x else y) := by cases b <;> rfl
theorem wadd_in {a c : Int} (h : -9223372036854775808 ≤ a + c) (h' : a + c ≤ 9223372036854775807) : wadd .i64 a c = a + c := by
  simp only [wadd, IntKind.wrap, IntKind.signed, IntKind.bits]; simp; omega
theorem wsub_in {a c : Int} (h : -9223372036854775808 ≤ a - c) (h' : a - c ≤ 9223372036854775807) : wsub .i64 a c = a - c := by
  simp only [wsub, IntKind.wrap, IntKind.signed, IntKind.bits]; simp; omega
theorem lget_pre {β : Type} (pre : List β) (c : β) (l : List β) (d : β) : lget (pre ++ c :: l) pre.length d = c := by
  rw [lget_eq]; simp
theorem sat_pre (pre : LB) (c : UInt8) (l : LB) : sat (pre ++ c :: l) (pre.length : Int) = (c.toNat : Int) := by
  simp only [sat, Int.toNat_natCast, lget_pre]
theorem rget_pre {β : Type} (pre : List (List β)) (c : List β) (l : List (List β)) : rget (pre ++ c :: l) (pre.length : Int) = c := by
  simp only [rget, Int.toNat_natCast, lget_pre]
theorem ilt_pre {β : Type} (pre : List β) (c : β) (l : List β) : ilt (pre.length : Int) (rlen (pre ++ c :: l)) = true := by
  simp [ilt, rlen]; omega
theorem ilt_pre' (pre : LB) (c : UInt8) (l : LB) : ilt (pre.length : Int) (slen (pre ++ c :: l)) = true := ilt_pre pre c l
theorem ilt_end {β : Type} (pre : List β) : ilt (pre.length : Int) (rlen (pre ++ [])) = false := by simp [ilt, rlen]
theorem ilt_end' (pre : LB) : ilt (pre.length : Int) (slen (pre ++ [])) = false := ilt_end pre
theorem ile_pre {β : Type} (pre : List β) : ile 0 (pre.length : Int) = true := by simp [ile]
theorem len_snoc {β : Type} (pre : List β) (c : β) : ((pre.length : Int) + 1) = ((pre ++ [c]).length : Int) := by simp
theorem app_snoc {β : Type} (pre : List β) (c : β) (l : List β) : pre ++ c :: l = (pre ++ [c]) ++ l := by simp
theorem wadd_pre {β : Type} (pre : List β) (c : β) (h : pre.length < 9223372036854775807) : wadd .i64 (pre.length : Int) 1 = ((pre ++ [c]).length : Int) := by
  rw [wadd_in (by omega) (by omega), len_snoc]
theorem seq_iff (a c : LB) : seq a c = true ↔ a = c := by simp [seq]
theorem ieq_iff (a c : Int) : ieq a c = true ↔ a = c := by simp [ieq]
theorem cond_iff {a b c : Bool} : (bif a then b else c) = true ↔ (a = true ∧ b = true) ∨ (a = false ∧ c = true) := by cases a <;> simp

/-! ### keys and names -/
def pchars : LB := (List.range 94).map fun i => UInt8.ofNat (33 + i)
theorem f57 {α : Type} (k : Nat) (hk : 95 ≤ k) (K : LB → Option α) : f57a k K = K pchars := by
  obtain ⟨n, rfl⟩ : ∃ n, k = n + 95 := ⟨k - 95, by omega⟩
  kernel_rfl
theorem dropWhile_nil {p : UInt8 → Bool} : ∀ (l : LB), l.dropWhile p = [] ↔ ∀ c ∈ l, p c = true
  | [] => by simp
  | a :: l => by
    rw [List.dropWhile_cons]
    cases h : p a
    · simp [h]
    · simp [h, dropWhile_nil l]
theorem trimS_nil (l cs : LB) : Lib.trimS l cs = [] ↔ ∀ c ∈ l, cs.contains c = true := by
  unfold Lib.trimS Lib.trimLeftS Lib.trimRightS
  rw [dropWhile_nil]
  constructor
  · intro h
    by_cases h0 : (l.reverse.dropWhile (cs.contains ·)) = []
    · rw [dropWhile_nil] at h0
      intro c hc
      exact h0 c (by simpa using hc)
    · obtain ⟨a, t, ht⟩ : ∃ a t, l.reverse.dropWhile (cs.contains ·) = a :: t := by
        cases hh : l.reverse.dropWhile (cs.contains ·) with
        | nil => exact absurd hh h0
        | cons a t => exact ⟨a, t, rfl⟩
      have h1 := h a (by rw [ht]; simp)
      have h2 := List.head?_dropWhile_not (fun x => cs.contains x) l.reverse
      rw [ht] at h2
      simp at h2
      simp [h2] at h1
  · intro h c hc
    rw [List.mem_reverse] at hc
    have := List.dropWhile_sublist (fun x => cs.contains x) (l := l.reverse) |>.mem hc
    exact h c (by simpa using this)
/-- may a key be? -/
def keyB (x : LB) : Bool := bif (ige (slen x) 1) then (bif (ile (slen x) 64) then seq (Lib.trimS x pchars) [] else false) else false
theorem trimOK_p {x : LB} (h : x.length ≤ 64) : trimOK x pchars = true := by
  have : (pchars.all fun c => decide (c.toNat < 128)) = true := by decide
  have h2 : pchars.length = 94 := by decide
  simp only [trimOK, this, h2, Bool.true_and, Bool.and_eq_true]
  exact ⟨by decide, Nat.ble_eq_true_of_le (by omega)⟩
theorem f26 {α : Type} (k : Nat) (hk : 95 ≤ k) (x : LB) (K : Bool → Option α) : f26a k x K = K (keyB x) := by
  unfold f26a T26a keyB
  simp only [f57 k hk]
  cases h1 : ige (slen x) 1
  · rfl
  · cases h2 : ile (slen x) 64
    · rfl
    · simp only [cond_true, f56a]
      rw [trimOK_p (by simp [ile, slen] at h2; omega)]; rfl
theorem mem_pchars (c : UInt8) : pchars.contains c = true ↔ 33 ≤ c.toNat ∧ c.toNat ≤ 126 := by
  have : ∀ c : Fin 256, pchars.contains (UInt8.ofNat c.1) = true ↔ 33 ≤ c.1 ∧ c.1 ≤ 126 := by decide +kernel
  have h := this ⟨c.toNat, c.toNat_lt⟩
  simpa using h
theorem keyB_iff (x : LB) : keyB x = true ↔ 1 ≤ x.length ∧ x.length ≤ 64 ∧ ∀ c ∈ x, 33 ≤ c.toNat ∧ c.toNat ≤ 126 := by
  unfold keyB
  rw [cond_iff, cond_iff, seq_iff, trimS_nil]
  simp only [mem_pchars, ige, ile, slen, decide_eq_true_eq]
  constructor
  · rintro (⟨h1, (⟨h2, h3⟩ | ⟨_, h⟩)⟩ | ⟨_, h⟩)
    · exact ⟨by omega, by omega, h3⟩
    · cases h
    · cases h
  · rintro ⟨h1, h2, h3⟩
    exact .inl ⟨by omega, .inl ⟨by omega, h3⟩⟩
def inB (x t : Int) : Bool := bif ige x 0 then ile x t else false
theorem f54 {α : Type} (k : Nat) (x t : Int) (K : Bool → Option α) : f54a k x t K = K (inB x t) := by
  unfold f54a T54a inB; exact push2 K _ _ _
theorem inB_iff (x t : Int) : inB x t = true ↔ 0 ≤ x ∧ x ≤ t := by
  unfold inB; rw [cond_iff]; simp [ige, ile]
def kindB (x : Int) : Bool := bif ige x 1 then ile x 3 else false
theorem f59 {α : Type} (k : Nat) (x : Int) (K : Bool → Option α) : f59a k x K = K (kindB x) := by
  unfold f59a T59a kindB; exact push2 K _ _ _
theorem kindB_iff (x : Int) : kindB x = true ↔ 1 ≤ x ∧ x ≤ 3 := by unfold kindB; rw [cond_iff]; simp [ige, ile]
def wchars : LB := [97, 98, 99, 100, 101, 102, 103, 104, 105, 106, 107, 108, 109, 110, 111, 112, 113, 114, 115, 116, 117, 118, 119, 120, 121, 122, 48, 49, 50, 51, 52, 53, 54, 55, 56, 57, 95]
def nameB (x : LB) : Bool := bif (ige (slen x) 1) then (bif (ile (slen x) 16) then seq (Lib.trimS x wchars) [] else false) else false
theorem trimOK_w {x : LB} (h : x.length ≤ 64) : trimOK x wchars = true := by
  have : (wchars.all fun c => decide (c.toNat < 128)) = true := by decide
  have h2 : wchars.length = 37 := by decide
  simp only [trimOK, this, h2, Bool.true_and, Bool.and_eq_true]
  exact ⟨by decide, Nat.ble_eq_true_of_le (by omega)⟩
theorem f58 {α : Type} (k : Nat) (x : LB) (K : Bool → Option α) : f58a k x K = K (nameB x) := by
  unfold f58a T58a nameB
  cases h1 : ige (slen x) 1
  · rfl
  · cases h2 : ile (slen x) 16
    · rfl
    · simp only [cond_true, f56a]
      show (bif trimOK x wchars then _ else _) = _
      rw [trimOK_w (by simp [ile, slen] at h2; omega)]; rfl
theorem mem_wchars (c : UInt8) : wchars.contains c = true → 33 ≤ c.toNat ∧ c.toNat ≤ 126 ∧ c.toNat ≠ 34 ∧ c.toNat ≠ 92 := by
  have : ∀ c : Fin 256, wchars.contains (UInt8.ofNat c.1) = true → 33 ≤ c.1 ∧ c.1 ≤ 126 ∧ c.1 ≠ 34 ∧ c.1 ≠ 92 := by decide +kernel
  have h := this ⟨c.toNat, c.toNat_lt⟩
  simpa using h
theorem nameB_imp {x : LB} (h : nameB x = true) : x.length ≤ 16 ∧ ∀ c ∈ x, wchars.contains c = true := by
  unfold nameB at h
  rw [cond_iff, cond_iff, seq_iff, trimS_nil] at h
  simp only [ige, ile, slen, decide_eq_true_eq] at h
  rcases h with (⟨h1, (⟨h2, h3⟩ | ⟨_, h⟩)⟩ | ⟨_, h⟩)
  · exact ⟨by omega, h3⟩
  · cases h
  · cases h
def paramB (x y : Int) : Bool := bif ieq x 0 then ieq y 0 else (bif (bif ieq x 1 then true else ieq x 2) then (bif ige y 1 then ile y 1024 else false) else false)
theorem f60 {α : Type} (k : Nat) (x y : Int) (K : Bool → Option α) : f60a k x y K = K (paramB x y) := by
  unfold f60a T60a L60aj5 T60aj5 paramB
  cases ieq x 0
  · cases ieq x 1
    · simp only [cond_false, push2 K]
    · simp only [cond_false, cond_true, push2 K]
  · rfl
def markB (x y : LB) (n : Int) : Bool := bif keyB x then (bif keyB y then (bif ige n 1 then ile n 4096 else false) else false) else false
theorem f27 {α : Type} (k : Nat) (hk : 95 ≤ k) (x y : LB) (n : Int) (K : Bool → Option α) : f27a k x y n K = K (markB x y n) := by
  unfold f27a T27a markB
  simp only [f26 k hk, push2 K]
theorem f30 {α : Type} (k : Nat) (hk : 95 ≤ k) (x : LB) (K : Bool → Option α) : f30a k x K = K (keyB x) := by
  unfold f30a T30a
  simp only [f26 k hk]
end Go.AI

/-
  PLAIN LAWS: runes. What utf.Rune, First, Valid come to.
-/
set_option maxRecDepth 100000
set_option linter.unusedVariables false
set_option linter.unusedSimpArgs false
namespace Go.AI
open Go.Proofs

def mskN : Nat → Int
  | 1 => 128
  | 2 => 224
  | 3 => 240
  | _ => 248
def headN : Nat → Int
  | 1 => 0
  | 2 => 192
  | 3 => 224
  | _ => 240
def leastN : Nat → Int
  | 1 => 0
  | 2 => 128
  | 3 => 2048
  | _ => 65536
/-- the bytes that go on -/
def innerP : Nat → Int → LB → Option Int
  | 0, r, _ => some r
  | _ + 1, _, [] => none
  | m + 1, r, c :: l => bif ine (wand .u8 (c.toNat : Int) 192) 128 then none else innerP m (wor .i64 (wshl .i64 r 6) (wcv .i64 (wand .u8 (c.toNat : Int) 63))) l
def tryP (n : Nat) (c : UInt8) (l : LB) : Int × Int :=
  bif Nat.ble n (l.length + 1) then (match innerP (n - 1) (wandn .i64 (wcv .i64 (c.toNat : Int)) (mskN n)) l with
    | none => (0, 0)
    | some r => bif ilt r (leastN n) then (0, 0) else (bif mayB r then (r, (n : Int)) else (0, 0))) else (0, 0)
def fitsP (n : Nat) (c : UInt8) : Bool := !(ine (wand .i64 (wcv .i64 (c.toNat : Int)) (mskN n)) (headN n))
/-- the rune at a text's begin, and how many bytes it has -/
def runeP : LB → Int × Int
  | [] => (0, 0)
  | c :: l => bif fitsP 1 c then tryP 1 c l else (bif fitsP 2 c then tryP 2 c l else (bif fitsP 3 c then tryP 3 c l else (bif fitsP 4 c then tryP 4 c l else (0, 0))))

theorem f166 {α : Type} (k : Nat) (r : Int) (K : Bool → Option α) : f166a k r K = K (mayB r) := by
  unfold f166a T166a mayB
  simp only [ige, ile, ilt, igt, ge_iff_le, gt_iff_lt]
  by_cases h0 : 0 ≤ r
  · by_cases h1 : r ≤ 1114111
    · by_cases h2 : r < 55296 <;> simp [h0, h1, h2]
    · simp [h0, h1]
  · simp [h0]

theorem inner_run {α : Type} (k m n : Nat) (hn : 1 ≤ n) (hn4 : n ≤ 4) (hm : mskN n = toI (lget (h156a_0 n) 0 .unk)) (hl : leastN n = toI (lget (h156a_0 n) 2 .unk)) (x : LB) (at' : Int) (K : Int → Int → Option α) :
    ∀ (j : Nat) (f : Nat) (pre l : LB) (r : Int), x = pre ++ l → at' + n = pre.length + j → j ≤ l.length → j < f → x.length < 9223372036854775800 → 0 ≤ at' →
      L156al1 k K n x at' f r (pre.length : Int) = (match innerP j r l with
        | none => K 0 0
        | some r => bif ilt r (leastN n) then K 0 0 else (bif mayB r then K r (n : Int) else K 0 0)) := by
  intro j
  induction j with
  | zero =>
    intro f pre l r hx ha hj hf hb h0
    obtain ⟨f, rfl⟩ : ∃ g, f = g + 1 := ⟨f - 1, by omega⟩
    simp only [L156al1, T156al1, innerP]
    have hbl : pre.length ≤ x.length := by rw [hx]; simp
    have e : wadd .i64 at' (n : Int) = at' + n := wadd_in (by omega) (by omega)
    rw [e, ha]
    have e2 : ilt (pre.length : Int) ((pre.length : Int) + (0 : Nat)) = false := by simp [ilt]
    rw [e2, cond_false, ← hl]
    simp only [f166]
    cases ilt r (leastN n) <;> cases mayB r <;> rfl
  | succ j ih =>
    intro f pre l r hx ha hj hf hb h0
    obtain ⟨f, rfl⟩ : ∃ g, f = g + 1 := ⟨f - 1, by omega⟩
    cases l with
    | nil => simp at hj
    | cons c l =>
      simp only [L156al1, T156al1, innerP]
      have hbl : pre.length < x.length := by rw [hx]; simp
      have hxl : x.length = pre.length + (c :: l).length := by rw [hx]; simp
      have e : wadd .i64 at' (n : Int) = at' + n := wadd_in (by omega) (by omega)
      have e2 : ilt (pre.length : Int) (at' + n) = true := by simp [ilt]; omega
      have e3 : ilt (pre.length : Int) (slen x) = true := by rw [hx]; exact ilt_pre' _ _ _
      have e4 : sat x (pre.length : Int) = (c.toNat : Int) := by rw [hx]; exact sat_pre _ _ _
      rw [e, e2, e3, e4, ile_pre, wadd_pre pre c (by omega)]
      simp only [cond_true]
      cases h : ine (wand .u8 (c.toNat : Int) 192) 128
      · simp only [cond_false]
        exact ih f (pre ++ [c]) l _ (by rw [hx, app_snoc]) (by simp; omega) (by simpa using hj) (by omega) hb h0
      · simp only [cond_true]

theorem try_run {α : Type} (k : Nat) (hk : 6 ≤ k) (n : Nat) (hn : 1 ≤ n) (hn4 : n ≤ 4) (hm : mskN n = toI (lget (h156a_0 n) 0 .unk)) (hh : headN n = toI (lget (h156a_0 n) 1 .unk)) (hl : leastN n = toI (lget (h156a_0 n) 2 .unk))
    (pre : LB) (c : UInt8) (l : LB) (hb : (pre ++ c :: l).length < 9223372036854775800) (K : Int → Int → Option α) (f : Nat) :
    L156al0 k K (pre ++ c :: l) (pre.length : Int) (f + 1) (n : Int) = bif fitsP n c then K (tryP n c l).1 (tryP n c l).2 else L156al0 k K (pre ++ c :: l) (pre.length : Int) f ((n + 1 : Nat) : Int) := by
  have e1 : ilt (n : Int) 5 = true := by simp [ilt]; omega
  have e2 : ile 0 (n : Int) = true := by simp [ile]
  have e3 : ieq (n : Int) 0 = false := by simp [ieq]; omega
  have e5 : wadd .i64 (n : Int) 1 = ((n + 1 : Nat) : Int) := by rw [wadd_in (by omega) (by omega)]; simp
  have hlen : (pre ++ c :: l).length = pre.length + (l.length + 1) := by simp
  have e6 : wsub .i64 (slen (pre ++ c :: l)) (pre.length : Int) = ((l.length + 1 : Nat) : Int) := by
    rw [wsub_in (by simp [slen]; omega) (by simp only [slen]; omega)]; simp only [slen, hlen]; omega
  simp only [L156al0, T156al0, e1, e2, e3, ile_pre, ilt_pre', sat_pre, cond_true, cond_false, ← hm, ← hh, e5, e6]
  unfold fitsP
  cases hc : ine (wand .i64 (wcv .i64 (c.toNat : Int)) (mskN n)) (headN n)
  · simp only [Bool.not_false, cond_true, cond_false]
    unfold tryP
    cases hg : Nat.ble n (l.length + 1)
    · have : igt (n : Int) ((l.length + 1 : Nat) : Int) = true := by
        have : ¬ n ≤ l.length + 1 := fun h => by rw [Nat.ble_eq_true_of_le h] at hg; cases hg
        simp [igt]; omega
      rw [this]; rfl
    · have hg' := Nat.le_of_ble_eq_true hg
      have : igt (n : Int) ((l.length + 1 : Nat) : Int) = false := by simp [igt]; omega
      rw [this, wadd_pre pre c (by rw [hlen] at hb; omega)]
      simp only [cond_true, cond_false]
      rw [inner_run k k n hn hn4 hm hl (pre ++ c :: l) (pre.length : Int) K (n - 1) k (pre ++ [c]) l _ (by rw [app_snoc]) (by simp; omega) (by omega) (by omega) hb (by omega)]
      cases innerP (n - 1) _ l with
      | none => rfl
      | some r => dsimp only; cases ilt r (leastN n) <;> cases mayB r <;> rfl
  · simp only [Bool.not_true, cond_true, cond_false]

theorem L156_0 {α : Type} (k g : Nat) (x : LB) (at' : Int) (K : Int → Int → Option α) : L156al0 k K x at' (g + 1) 0 = L156al0 k K x at' g 1 := by
  have e1 : ilt 0 5 = true := rfl
  have e2 : ile 0 0 = true := rfl
  have e3 : ieq 0 0 = true := rfl
  have e4 : wadd .i64 0 1 = 1 := rfl
  simp only [L156al0, T156al0, e1, e2, e3, e4, cond_true]
theorem L156_5 {α : Type} (k g : Nat) (x : LB) (at' : Int) (K : Int → Int → Option α) : L156al0 k K x at' (g + 1) ((4 + 1 : Nat) : Int) = K 0 0 := by
  have e1 : ilt ((4 + 1 : Nat) : Int) 5 = false := rfl
  simp only [L156al0, T156al0, e1, cond_false]
theorem f156 {α : Type} (k : Nat) (hk : 6 ≤ k) (pre l : LB) (hb : (pre ++ l).length < 9223372036854775800) (K : Int → Int → Option α) : f156a k (pre ++ l) (pre.length : Int) K = K (runeP l).1 (runeP l).2 := by
  have e0 : ilt (pre.length : Int) 0 = false := by simp [ilt]
  unfold f156a T156a
  rw [e0, cond_false]
  cases l with
  | nil =>
    have : ige (pre.length : Int) (slen (pre ++ [])) = true := by simp [ige, slen]
    rw [this]; rfl
  | cons c l =>
    have : ige (pre.length : Int) (slen (pre ++ c :: l)) = false := by simp [ige, slen]; omega
    rw [this, cond_false]
    simp only [f165a, T165a]
    obtain ⟨g1, e1⟩ : ∃ g, k = g + 1 := ⟨k - 1, by omega⟩
    obtain ⟨g2, e2⟩ : ∃ g, g1 = g + 1 := ⟨g1 - 1, by omega⟩
    obtain ⟨g3, e3⟩ : ∃ g, g2 = g + 1 := ⟨g2 - 1, by omega⟩
    obtain ⟨g4, e4⟩ : ∃ g, g3 = g + 1 := ⟨g3 - 1, by omega⟩
    obtain ⟨g5, e5⟩ : ∃ g, g4 = g + 1 := ⟨g4 - 1, by omega⟩
    obtain ⟨g6, e6⟩ : ∃ g, g5 = g + 1 := ⟨g5 - 1, by omega⟩
    have q0 := L156_0 k g1 (pre ++ c :: l) (pre.length : Int) K
    have q1 := try_run k hk 1 (by omega) (by omega) rfl rfl rfl pre c l hb K g2
    have q2 := try_run k hk 2 (by omega) (by omega) rfl rfl rfl pre c l hb K g3
    have q3 := try_run k hk 3 (by omega) (by omega) rfl rfl rfl pre c l hb K g4
    have q4 := try_run k hk 4 (by omega) (by omega) rfl rfl rfl pre c l hb K g5
    have q5 := L156_5 k g6 (pre ++ c :: l) (pre.length : Int) K
    rw [← e1] at q0
    rw [← e2] at q1; rw [← e3] at q2; rw [← e4] at q3; rw [← e5] at q4; rw [← e6] at q5
    rw [q0]
    refine q1.trans ?_
    unfold runeP
    dsimp only
    cases fitsP 1 c
    · simp only [cond_false]
      refine q2.trans ?_
      cases fitsP 2 c
      · simp only [cond_false]
        refine q3.trans ?_
        cases fitsP 3 c
        · simp only [cond_false]
          refine q4.trans ?_
          cases fitsP 4 c
          · simp only [cond_false]; exact q5
          · rfl
        · rfl
      · rfl
    · rfl

/-- a text all of whose runes are there -/
def validN : Nat → LB → Bool
  | _, [] => true
  | 0, _ => false
  | n + 1, c :: l => bif ieq (runeP (c :: l)).2 0 then false else validN n ((c :: l).drop (runeP (c :: l)).2.toNat)
def validP (l : LB) : Bool := validN l.length l

theorem innerP_len : ∀ (m : Nat) (r : Int) (l : LB) (q : Int), innerP m r l = some q → m ≤ l.length
  | 0, _, _, _, _ => Nat.zero_le _
  | _ + 1, _, [], _, h => by simp [innerP] at h
  | m + 1, r, c :: l, q, h => by
    unfold innerP at h
    cases hc : ine (wand .u8 (c.toNat : Int) 192) 128
    · rw [hc, cond_false] at h
      have := innerP_len m _ l q h
      simpa using this
    · rw [hc, cond_true] at h; cases h
theorem innerP_loc : ∀ (m : Nat) (r : Int) (l l' : LB) (q : Int), innerP m r l = some q → innerP m r (l.take m ++ l') = some q
  | 0, _, _, _, _, h => h
  | _ + 1, _, [], _, _, h => by simp [innerP] at h
  | m + 1, r, c :: l, l', q, h => by
    simp only [List.take_succ_cons, List.cons_append]
    unfold innerP at h ⊢
    cases hc : ine (wand .u8 (c.toNat : Int) 192) 128
    · rw [hc, cond_false] at h
      rw [cond_false]
      exact innerP_loc m _ l l' q h
    · rw [hc, cond_true] at h; cases h
theorem tryP_cases (n : Nat) (c : UInt8) (l : LB) (hn : 1 ≤ n) : tryP n c l = (0, 0) ∨
    (n ≤ l.length + 1 ∧ ∃ r, innerP (n - 1) (wandn .i64 (wcv .i64 (c.toNat : Int)) (mskN n)) l = some r ∧ ilt r (leastN n) = false ∧ mayB r = true ∧ tryP n c l = (r, (n : Int))) := by
  unfold tryP
  cases hg : Nat.ble n (l.length + 1)
  · exact .inl rfl
  · simp only [cond_true]
    cases hi : innerP (n - 1) (wandn .i64 (wcv .i64 (c.toNat : Int)) (mskN n)) l with
    | none => exact .inl rfl
    | some r =>
      dsimp only
      cases h1 : ilt r (leastN n)
      · cases h2 : mayB r
        · exact .inl rfl
        · exact .inr ⟨Nat.le_of_ble_eq_true hg, r, rfl, h1, h2, rfl⟩
      · exact .inl rfl
theorem tryP_loc (n : Nat) (c : UInt8) (l l' : LB) (hn : 1 ≤ n) (h : (tryP n c l).2 ≠ 0) : tryP n c (l.take (n - 1) ++ l') = tryP n c l := by
  rcases tryP_cases n c l hn with h0 | ⟨hl, r, hi, h1, h2, h3⟩
  · rw [h0] at h; exact absurd rfl h
  · rw [h3]
    unfold tryP
    rw [innerP_loc _ _ _ l' _ hi, Nat.ble_eq_true_of_le (by simp; omega)]
    simp only [cond_true, h1, h2, cond_false]
/-- what a rune's head tells: which form it has -/
theorem runeP_form (c : UInt8) (l : LB) (h : (runeP (c :: l)).2 ≠ 0) : ∃ n, 1 ≤ n ∧ n ≤ 4 ∧ fitsP n c = true ∧ (∀ l', runeP (c :: l') = tryP n c l') := by
  unfold runeP at h ⊢
  dsimp only at h ⊢
  cases h1 : fitsP 1 c
  · cases h2 : fitsP 2 c
    · cases h3 : fitsP 3 c
      · cases h4 : fitsP 4 c
        · rw [h1, h2, h3, h4] at h; exact absurd rfl h
        · exact ⟨4, by omega, by omega, h4, fun l' => rfl⟩
      · exact ⟨3, by omega, by omega, h3, fun l' => rfl⟩
    · exact ⟨2, by omega, by omega, h2, fun l' => rfl⟩
  · exact ⟨1, by omega, by omega, h1, fun l' => rfl⟩
/-- a rune: so many bytes, at its place whatever follows -/
theorem runeP_some (c : UInt8) (l : LB) (h : (runeP (c :: l)).2 ≠ 0) : ∃ n : Nat, 1 ≤ n ∧ n ≤ 4 ∧ n ≤ l.length + 1 ∧ fitsP n c = true ∧ (runeP (c :: l)).2 = (n : Int) ∧ leastN n ≤ (runeP (c :: l)).1 ∧ mayB (runeP (c :: l)).1 = true ∧
    ∀ l', runeP ((c :: l).take n ++ l') = runeP (c :: l) := by
  obtain ⟨n, h1, h2, h3, h4⟩ := runeP_form c l h
  have h5 := h4 l
  rcases tryP_cases n c l h1 with h0 | ⟨hl, r, hi, g1, g2, g3⟩
  · rw [h5, h0] at h; exact absurd rfl h
  · refine ⟨n, h1, h2, hl, h3, by rw [h5, g3], ?_, by rw [h5, g3]; exact g2, fun l' => ?_⟩
    · rw [h5, g3]; simpa [ilt] using g1
    · obtain ⟨m, rfl⟩ : ∃ m, n = m + 1 := ⟨n - 1, by omega⟩
      simp only [List.take_succ_cons, List.cons_append]
      rw [h4, h5]
      exact tryP_loc (m + 1) c l l' h1 (by rw [g3]; show ((m + 1 : Nat) : Int) ≠ 0; omega)
theorem runeP_zero (l : LB) (h : (runeP l).2 = 0) : (runeP l).2 = 0 := h

theorem first_run {α : Type} (k : Nat) (hk : 6 ≤ k) (K : Int → Option α) : ∀ (n f : Nat) (pre l : LB), l.length ≤ n → n < f → (pre ++ l).length < 9223372036854775800 →
    ∃ r : Int, ((validN n l = true ∧ r = -1) ∨ (validN n l = false ∧ 0 ≤ r)) ∧ L144al0 k K (pre ++ l) f (pre.length : Int) = K r := by
  intro n
  induction n with
  | zero =>
    intro f pre l hl hf hb
    obtain ⟨f, rfl⟩ : ∃ g, f = g + 1 := ⟨f - 1, by omega⟩
    cases l with
    | nil => exact ⟨-1, .inl ⟨rfl, rfl⟩, by simp only [L144al0, T144al0, ilt_end']; rfl⟩
    | cons c l => simp at hl
  | succ n ih =>
    intro f pre l hl hf hb
    obtain ⟨f, rfl⟩ : ∃ g, f = g + 1 := ⟨f - 1, by omega⟩
    cases l with
    | nil => exact ⟨-1, .inl ⟨rfl, rfl⟩, by simp only [L144al0, T144al0, ilt_end']; rfl⟩
    | cons c l =>
      simp only [L144al0, T144al0, ilt_pre', cond_true, f156 k hk pre (c :: l) hb]
      unfold validN
      cases hz : ieq (runeP (c :: l)).2 0
      · simp only [cond_false]
        have hne : (runeP (c :: l)).2 ≠ 0 := by simpa [ieq] using hz
        obtain ⟨m, m1, m2, m3, m4, m5, _⟩ := runeP_some c l hne
        rw [m5, Int.toNat_natCast]
        have hlen : (pre ++ c :: l).length = pre.length + (l.length + 1) := by simp
        have e : wadd .i64 (pre.length : Int) (m : Int) = ((pre ++ (c :: l).take m).length : Int) := by
          rw [wadd_in (by omega) (by omega)]
          have : ((c :: l).take m).length = m := by simp; omega
          rw [List.length_append, this]; simp
        have e2 : pre ++ c :: l = (pre ++ (c :: l).take m) ++ (c :: l).drop m := by rw [List.append_assoc, List.take_append_drop]
        rw [e]
        obtain ⟨r, hr, hrun⟩ := ih f (pre ++ (c :: l).take m) ((c :: l).drop m) (by simp at hl ⊢; omega) (by omega) (by rw [← e2]; exact hb)
        refine ⟨r, hr, ?_⟩
        rw [← hrun, ← e2]
      · exact ⟨(pre.length : Int), .inr ⟨rfl, by omega⟩, rfl⟩
theorem f98 {α : Type} (k : Nat) (x : LB) (hk : x.length + 6 ≤ k) (hb : x.length < 9223372036854775800) (K : Bool → Option α) : f98a k x K = K (validP x) := by
  unfold f98a T98a f144a T144a
  obtain ⟨r, hr, h⟩ := first_run k (by omega) (fun y0 => K (ilt y0 0)) x.length k [] x (Nat.le_refl _) (by omega) (by simpa using hb)
  simp only [List.nil_append, List.length_nil] at h
  refine h.trans ?_
  unfold validP
  rcases hr with ⟨h1, h2⟩ | ⟨h1, h2⟩
  · rw [h1, h2]; rfl
  · rw [h1]
    have : ilt r 0 = false := by simp [ilt]; omega
    rw [this]
end Go.AI

/-
  PLAIN LAWS: which actions may be.
-/
set_option maxRecDepth 100000
set_option linter.unusedVariables false
set_option linter.unusedSimpArgs false
namespace Go.AI
open Go.Proofs

/-! ### values -/
def kind0B (x : Int) : Bool := bif ieq x 0 then true else kindB x
theorem f96 {α : Type} (k : Nat) (x : Int) (K : Bool → Option α) : f96a k x K = K (kind0B x) := by
  unfold f96a T96a kind0B
  simp only [f59]; exact push2 K _ _ _
def plainB (x0 x1 : Int) (x2 : Bool) (x3 : LB) : Bool :=
  bif ieq x0 1 then Bool.and (ieq x0 x0) (Bool.and (ieq x1 x1) (Bool.and (beqB x2 false) (Bool.and (seq x3 []) true)))
  else (bif ieq x0 2 then Bool.and (ieq x0 x0) (Bool.and (ieq x1 0) (Bool.and (beqB x2 x2) (Bool.and (seq x3 []) true)))
  else (bif ieq x0 3 then Bool.and (ieq x0 x0) (Bool.and (ieq x1 0) (Bool.and (beqB x2 false) (Bool.and (seq x3 x3) true)))
  else Bool.and (ieq x0 0) (Bool.and (ieq x1 0) (Bool.and (beqB x2 false) (Bool.and (seq x3 []) true)))))
def valueB (x0 x1 : Int) (x2 : Bool) (x3 : LB) : Bool := bif kind0B x0 then (bif plainB x0 x1 x2 x3 then (bif ile (slen x3) 64 then validP x3 else false) else false) else false
theorem f55 {α : Type} (k : Nat) (hk : 100 ≤ k) (x0 x1 : Int) (x2 : Bool) (x3 : LB) (K : Bool → Option α) : f55a k x0 x1 x2 x3 K = K (valueB x0 x1 x2 x3) := by
  unfold f55a T55a valueB
  simp only [f96]
  cases hk0 : kind0B x0
  · rfl
  · simp only [cond_true]
    have hv : (bif ile (slen x3) 64 then f98a k x3 (fun y5 => K y5) else K false) = K (bif ile (slen x3) 64 then validP x3 else false) := by
      cases h : ile (slen x3) 64
      · rfl
      · have hl : x3.length ≤ 64 := by simp [ile, slen] at h; omega
        simp only [cond_true]
        exact f98 k x3 (by omega) (by omega) _
    unfold f97a T97a plainB
    rw [hv]
    cases ieq x0 1
    · cases ieq x0 2
      · cases ieq x0 3
        · simp only [cond_false, push2 K]
        · simp only [cond_false, cond_true, push2 K]
      · simp only [cond_false, cond_true, push2 K]
    · simp only [cond_true, push2 K]
/-- what a value may be -/
theorem valueB_imp {x0 x1 : Int} {x2 : Bool} {x3 : LB} (h : valueB x0 x1 x2 x3 = true) :
    (x0 = 0 ∧ x1 = 0 ∧ x2 = false ∧ x3 = []) ∨ (x0 = 1 ∧ x2 = false ∧ x3 = []) ∨ (x0 = 2 ∧ x1 = 0 ∧ x3 = []) ∨ (x0 = 3 ∧ x1 = 0 ∧ x2 = false ∧ x3.length ≤ 64 ∧ validP x3 = true) := by
  unfold valueB at h
  rw [cond_iff, cond_iff, cond_iff] at h
  rcases h with ⟨_, ⟨h2, ⟨h3, h4⟩ | ⟨_, h⟩⟩ | ⟨_, h⟩⟩ | ⟨_, h⟩
  · unfold plainB at h2
    simp only [cond_iff] at h2
    simp only [ieq, seq, beqB, Bool.and_eq_true, beq_iff_eq, beq_eq_false_iff_ne, Bool.and_true, ile, slen, decide_eq_true_eq] at h2 h3
    rcases h2 with ⟨e, _, _, a, b⟩ | ⟨_, ⟨e, _, a, _, b⟩ | ⟨_, ⟨e, _, a, b, _⟩ | ⟨_, e, a, b, c⟩⟩⟩
    · exact .inr (.inl ⟨e, a, by simpa using b⟩)
    · exact .inr (.inr (.inl ⟨e, a, by simpa using b⟩))
    · exact .inr (.inr (.inr ⟨e, a, b, by omega, h4⟩))
    · exact .inl ⟨e, a, b, by simpa using c⟩
  · cases h
  · cases h
  · cases h

/-! ### a file -/
def valRow (r : List AV) : Bool := valueB (toI (lget r 0 .unk)) (toI (lget r 1 .unk)) (toB (lget r 2 .unk)) (toS (lget r 3 .unk))
def statsB (x2 : Int) : Int → LR → Bool
  | _, [] => true
  | last, r :: l => bif ile (toI (lget r 0 .unk)) last then false else (bif inB (toI (lget r 1 .unk)) x2 then
      (bif valueB (toI (lget r 2 .unk)) (toI (lget r 3 .unk)) (toB (lget r 4 .unk)) (toS (lget r 5 .unk)) then
      (bif valueB (toI (lget r 6 .unk)) (toI (lget r 7 .unk)) (toB (lget r 8 .unk)) (toS (lget r 9 .unk)) then statsB x2 (toI (lget r 0 .unk)) l else false) else false) else false)
theorem stats_run {α : Type} (k : Nat) (hk : 100 ≤ k) (x0 : LB) (x1 x2 : Int) (x3 : LR) (K : Bool → Option α) : ∀ (l : LR) (f : Nat) (pre : LR) (last : Int), l.length < f → (pre ++ l).length ≤ 100 →
    L25al1 k K x0 x1 x2 x3 (pre ++ l) f last (pre.length : Int) = K (statsB x1 last l) := by
  intro l
  induction l with
  | nil =>
    intro f pre last hf hb
    obtain ⟨f, rfl⟩ : ∃ g, f = g + 1 := ⟨f - 1, by omega⟩
    simp only [L25al1, T25al1, ilt_end]; rfl
  | cons r l ih =>
    intro f pre last hf hb
    obtain ⟨f, rfl⟩ : ∃ g, f = g + 1 := ⟨f - 1, by omega⟩
    have hl : (pre ++ r :: l).length = pre.length + (l.length + 1) := by simp
    simp only [L25al1, T25al1, ilt_pre, ile_pre, rget_pre, cond_true, f54, f55 k hk, statsB, wadd_pre pre r (by omega)]
    rw [app_snoc pre r l, ih f (pre ++ [r]) _ (by simpa using hf) (by rw [← app_snoc]; exact hb)]
    cases ile (toI (lget r 0 .unk)) last
    · cases inB (toI (lget r 1 .unk)) x1
      · rfl
      · cases valueB (toI (lget r 2 .unk)) (toI (lget r 3 .unk)) (toB (lget r 4 .unk)) (toS (lget r 5 .unk))
        · rfl
        · cases valueB (toI (lget r 6 .unk)) (toI (lget r 7 .unk)) (toB (lget r 8 .unk)) (toS (lget r 9 .unk)) <;> rfl
    · rfl
theorem part_run {α : Type} (k : Nat) (hk : 100 ≤ k) (x0 : LB) (x1 x2 : Int) (x4 : LR) (h4 : x4.length ≤ 12) (K : Bool → Option α) : ∀ (l : LR) (f : Nat) (pre : LR), l.length < f → (pre ++ l).length ≤ 100 →
    L25al0 k K x0 x1 x2 (pre ++ l) x4 f (pre.length : Int) = K (bif l.all valRow then statsB x1 0 x4 else false) := by
  intro l
  induction l with
  | nil =>
    intro f pre hf hb
    obtain ⟨f, rfl⟩ : ∃ g, f = g + 1 := ⟨f - 1, by omega⟩
    simp only [L25al0, T25al0, ilt_end, cond_false]
    have := stats_run k hk x0 x1 x2 (pre ++ []) K x4 k [] 0 (by omega) (by simp; omega)
    simpa using this
  | cons r l ih =>
    intro f pre hf hb
    obtain ⟨f, rfl⟩ : ∃ g, f = g + 1 := ⟨f - 1, by omega⟩
    have hl : (pre ++ r :: l).length = pre.length + (l.length + 1) := by simp
    simp only [L25al0, T25al0, ilt_pre, ile_pre, rget_pre, cond_true, f55 k hk, List.all_cons, wadd_pre pre r (by omega)]
    rw [app_snoc pre r l, ih f (pre ++ [r]) (by simpa using hf) (by rw [← app_snoc]; exact hb)]
    show _ = K (bif (valRow r && l.all valRow) then _ else _)
    unfold valRow
    cases valueB (toI (lget r 0 .unk)) (toI (lget r 1 .unk)) (toB (lget r 2 .unk)) (toS (lget r 3 .unk)) <;> rfl
def fileB (x0 : LB) (x1 x2 : Int) (x3 x4 : LR) : Bool :=
  bif keyB x0 then (bif inB x1 4096 then (bif inB x2 2147483647 then (bif igt (rlen x3) 4 then false else (bif igt (rlen x4) 12 then false else (bif x3.all valRow then statsB x1 0 x4 else false))) else false) else false) else false
theorem f25 {α : Type} (k : Nat) (hk : 100 ≤ k) (x0 : LB) (x1 x2 : Int) (x3 x4 : LR) (K : Bool → Option α) : f25a k x0 x1 x2 x3 x4 K = K (fileB x0 x1 x2 x3 x4) := by
  unfold f25a T25a fileB
  simp only [f26 k (by omega), f54]
  cases keyB x0
  · rfl
  · cases inB x1 4096
    · rfl
    · cases inB x2 2147483647
      · rfl
      · cases h3 : igt (rlen x3) 4
        · cases h4 : igt (rlen x4) 12
          · simp only [Bool.not_true, cond_false, cond_true]
            have e3 : x3.length ≤ 4 := by simp [igt, rlen] at h3; omega
            have e4 : x4.length ≤ 12 := by simp [igt, rlen] at h4; omega
            have := part_run k hk x0 x1 x2 x4 e4 K x3 k [] (by omega) (by simp; omega)
            simpa using this
          · rfl
        · rfl

/-! ### a schema -/
def colRow (x2 : Int) (pre : LR) (r : List AV) : Bool :=
  bif ilt (toI (lget r 0 .unk)) 1 then false else (bif ige (toI (lget r 0 .unk)) x2 then false else (bif nameB (toS (lget r 1 .unk)) then (bif kindB (toI (lget r 2 .unk)) then
    pre.all (fun q => bif ieq (toI (lget q 0 .unk)) (toI (lget r 0 .unk)) then false else (bif seq (toS (lget q 1 .unk)) (toS (lget r 1 .unk)) then false else true)) else false) else false))
def colsB (x2 : Int) : LR → LR → Bool
  | _, [] => true
  | pre, r :: l => bif colRow x2 pre r then colsB x2 (pre ++ [r]) l else false
theorem rsub_pre {β : Type} (pre l : List β) : rsub (pre ++ l) 0 (pre.length : Int) = pre := by
  simp only [rsub, Int.toNat_zero, Int.toNat_natCast, ldrop_eq]; simp
theorem twin_run {α : Type} (k : Nat) (x0 x2 : Int) (pre : LR) (r : List AV) (l : LR) (r0 : Int → Option α) (K : Bool → Option α) (hb : (pre ++ r :: l).length ≤ 100) : ∀ (q : LR) (f : Nat) (p : LR), q.length < f → pre = p ++ q →
    L28al1 k r0 K (pre.length : Int) x0 (pre ++ r :: l) x2 f (p.length : Int) = bif (q.all fun q => bif ieq (toI (lget q 0 .unk)) (toI (lget r 0 .unk)) then false else (bif seq (toS (lget q 1 .unk)) (toS (lget r 1 .unk)) then false else true)) then r0 (wadd .i64 (pre.length : Int) 1) else K false := by
  intro q
  induction q with
  | nil =>
    intro f p hf hp
    obtain ⟨f, rfl⟩ : ∃ g, f = g + 1 := ⟨f - 1, by omega⟩
    simp only [L28al1, T28al1, rsub_pre]
    have : ilt (p.length : Int) (rlen pre) = false := by rw [hp]; exact ilt_end p
    rw [this]; rfl
  | cons a q ih =>
    intro f p hf hp
    obtain ⟨f, rfl⟩ : ∃ g, f = g + 1 := ⟨f - 1, by omega⟩
    have hl : (pre ++ r :: l).length = pre.length + (l.length + 1) := by simp
    have hpl : pre.length = p.length + (q.length + 1) := by rw [hp]; simp
    have e1 : ilt (p.length : Int) (rlen pre) = true := by rw [hp]; exact ilt_pre p a q
    have e2 : rget pre (p.length : Int) = a := by rw [hp]; exact rget_pre p a q
    simp only [L28al1, T28al1, rsub_pre, e1, e2, ile_pre, rget_pre, cond_true, List.all_cons, wadd_pre p a (by omega)]
    rw [ih f (p ++ [a]) (by simpa using hf) (by rw [hp, app_snoc])]
    cases ieq (toI (lget a 0 .unk)) (toI (lget r 0 .unk))
    · cases seq (toS (lget a 1 .unk)) (toS (lget r 1 .unk)) <;> rfl
    · rfl
theorem cols_run {α : Type} (k : Nat) (hk : 100 ≤ k) (x0 x2 : Int) (K : Bool → Option α) : ∀ (l : LR) (f : Nat) (pre : LR), l.length < f → (pre ++ l).length ≤ 90 →
    L28al0 k K x0 (pre ++ l) x2 f (pre.length : Int) = K (colsB x2 pre l) := by
  intro l
  induction l with
  | nil =>
    intro f pre hf hb
    obtain ⟨f, rfl⟩ : ∃ g, f = g + 1 := ⟨f - 1, by omega⟩
    simp only [L28al0, T28al0, ilt_end]; rfl
  | cons r l ih =>
    intro f pre hf hb
    obtain ⟨f, rfl⟩ : ∃ g, f = g + 1 := ⟨f - 1, by omega⟩
    have hl : (pre ++ r :: l).length = pre.length + (l.length + 1) := by simp
    have e2 : ile (pre.length : Int) (rlen (pre ++ r :: l)) = true := by simp [ile, rlen]; omega
    simp only [L28al0, T28al0, ilt_pre, ile_pre, rget_pre, cond_true, f58, f59, e2]
    rw [show (0 : Int) = (([] : LR).length : Int) from rfl, twin_run k x0 x2 pre r l _ K (by omega) pre k [] (by omega) rfl, wadd_pre pre r (by omega)]
    rw [app_snoc pre r l, ih f (pre ++ [r]) (by simpa using hf) (by rw [← app_snoc]; exact hb)]
    have ec : colsB x2 pre (r :: l) = bif colRow x2 pre r then colsB x2 (pre ++ [r]) l else false := rfl
    rw [ec]
    unfold colRow
    cases ilt (toI (lget r 0 .unk)) 1
    · cases ige (toI (lget r 0 .unk)) x2
      · cases nameB (toS (lget r 1 .unk))
        · rfl
        · cases kindB (toI (lget r 2 .unk))
          · rfl
          · cases (pre.all fun q => bif ieq (toI (lget q 0 .unk)) (toI (lget r 0 .unk)) then false else (bif seq (toS (lget q 1 .unk)) (toS (lget r 1 .unk)) then false else true)) <;> rfl
      · rfl
    · rfl
def schemaB (x0 : Int) (x1 : LR) (x2 : Int) : Bool :=
  bif ilt x0 0 then false else (bif igt x0 2147483647 then false else (bif ilt (rlen x1) 1 then false else (bif igt (rlen x1) 12 then false else (bif ilt x2 1 then false else (bif igt x2 2147483647 then false else colsB x2 [] x1)))))
theorem f28 {α : Type} (k : Nat) (hk : 100 ≤ k) (x0 : Int) (x1 : LR) (x2 : Int) (K : Bool → Option α) : f28a k x0 x1 x2 K = K (schemaB x0 x1 x2) := by
  unfold f28a T28a schemaB
  cases ilt x0 0
  · cases igt x0 2147483647
    · cases ilt (rlen x1) 1
      · cases h : igt (rlen x1) 12
        · cases ilt x2 1
          · cases igt x2 2147483647
            · have e : x1.length ≤ 12 := by simp [igt, rlen] at h; omega
              have := cols_run k hk x0 x2 K x1 k [] (by omega) (by simp; omega)
              simpa using this
            · rfl
          · rfl
        · rfl
      · rfl
    · rfl
  · rfl

/-! ### a spec -/
def fieldRow (r : List AV) : Bool := bif ilt (toI (lget r 0 .unk)) 1 then false else (bif igt (toI (lget r 0 .unk)) 2147483647 then false else paramB (toI (lget r 1 .unk)) (toI (lget r 2 .unk)))
theorem fields_run {α : Type} (k : Nat) (x0 : Int) (K : Bool → Option α) : ∀ (l : LR) (f : Nat) (pre : LR), l.length < f → (pre ++ l).length ≤ 90 →
    L29al0 k K x0 (pre ++ l) f (pre.length : Int) = K (l.all fieldRow) := by
  intro l
  induction l with
  | nil =>
    intro f pre hf hb
    obtain ⟨f, rfl⟩ : ∃ g, f = g + 1 := ⟨f - 1, by omega⟩
    simp only [L29al0, T29al0, ilt_end]; rfl
  | cons r l ih =>
    intro f pre hf hb
    obtain ⟨f, rfl⟩ : ∃ g, f = g + 1 := ⟨f - 1, by omega⟩
    have hl : (pre ++ r :: l).length = pre.length + (l.length + 1) := by simp
    simp only [L29al0, T29al0, ilt_pre, ile_pre, rget_pre, cond_true, f60, List.all_cons, wadd_pre pre r (by omega)]
    rw [app_snoc pre r l, ih f (pre ++ [r]) (by simpa using hf) (by rw [← app_snoc]; exact hb)]
    unfold fieldRow
    cases ilt (toI (lget r 0 .unk)) 1
    · cases igt (toI (lget r 0 .unk)) 2147483647
      · cases paramB (toI (lget r 1 .unk)) (toI (lget r 2 .unk)) <;> rfl
      · rfl
    · rfl
def specB (x0 : Int) (x1 : LR) : Bool := bif inB x0 2147483647 then (bif igt (rlen x1) 4 then false else x1.all fieldRow) else false
theorem f29 {α : Type} (k : Nat) (hk : 100 ≤ k) (x0 : Int) (x1 : LR) (K : Bool → Option α) : f29a k x0 x1 K = K (specB x0 x1) := by
  unfold f29a T29a specB
  simp only [f54]
  cases inB x0 2147483647
  · rfl
  · cases h : igt (rlen x1) 4
    · have e : x1.length ≤ 4 := by simp [igt, rlen] at h; omega
      have := fields_run k x0 K x1 k [] (by omega) (by simp; omega)
      simpa using this
    · rfl

/-! ### an action -/
def infoB (x16 x17 x18 x19 : Int) : Bool := bif inB x16 8 then (bif inB x17 2147483647 then (bif inB x18 11 then ige x19 0 else false) else false) else false
theorem f31 {α : Type} (k : Nat) (x0 : Int) (x1 : LB) (x2 : Int) (x3 : Int) (x4 : LR) (x5 : LR) (x6 : LB) (x7 : LB) (x8 : LB) (x9 : Int) (x10 : Int) (x11 : LR) (x12 : Int) (x13 : Int) (x14 : LR) (x15 : LB) (x16 : Int) (x17 : Int) (x18 : Int) (x19 : Int) (K : Bool → Option α) : f31a k x0 x1 x2 x3 x4 x5 x6 x7 x8 x9 x10 x11 x12 x13 x14 x15 x16 x17 x18 x19 K = K (infoB x16 x17 x18 x19) := by
  unfold f31a T31a infoB
  simp only [f54, push2 K]
/-- are all fields as those of another? (of lists their lengths) -/
def bareB (x0 : Int) (x1 : LB) (x2 : Int) (x3 : Int) (x4 : LR) (x5 : LR) (x6 : LB) (x7 : LB) (x8 : LB) (x9 : Int) (x10 : Int) (x11 : LR) (x12 : Int) (x13 : Int) (x14 : LR) (x15 : LB) (x16 : Int) (x17 : Int) (x18 : Int) (x19 : Int) (x20 : Int) (x21 : LB) (x22 : Int) (x23 : Int) (x24 : LR) (x25 : LR) (x26 : LB) (x27 : LB) (x28 : LB) (x29 : Int) (x30 : Int) (x31 : LR) (x32 : Int) (x33 : Int) (x34 : LR) (x35 : LB) (x36 : Int) (x37 : Int) (x38 : Int) (x39 : Int) : Bool := decide (x1 = x21) && (decide (x2 = x22) && (decide (x3 = x23) && (decide (x4.length = x24.length) && (decide (x5.length = x25.length) && (decide (x10 = x30) && (decide (x12 = x32) && (decide (x11.length = x31.length) && (decide (x13 = x33) && (decide (x14.length = x34.length) && (decide (x6 = x26) && (decide (x7 = x27) && (decide (x8 = x28) && (decide (x9 = x29) && (decide (x15 = x35) && (decide (x16 = x36) && (decide (x17 = x37) && (decide (x18 = x38) && decide (x19 = x39))))))))))))))))))
theorem rlen_nat (a c : LR) : ieq (rlen a) (rlen c) = decide (a.length = c.length) := by
  rw [Bool.eq_iff_iff]; simp only [ieq, rlen, beq_iff_eq, decide_eq_true_eq]; omega
theorem seq_dec (a c : LB) : seq a c = decide (a = c) := by rw [Bool.eq_iff_iff]; simp [seq]
theorem ieq_dec (a c : Int) : ieq a c = decide (a = c) := by rw [Bool.eq_iff_iff]; simp [ieq]
theorem condA (b x : Bool) : (bif b then x else false) = (b && x) := by cases b <;> rfl
theorem bare_core {α : Type} (x0 : Int) (x1 : LB) (x2 : Int) (x3 : Int) (x4 : LR) (x5 : LR) (x6 : LB) (x7 : LB) (x8 : LB) (x9 : Int) (x10 : Int) (x11 : LR) (x12 : Int) (x13 : Int) (x14 : LR) (x15 : LB) (x16 : Int) (x17 : Int) (x18 : Int) (x19 : Int) (x20 : Int) (x21 : LB) (x22 : Int) (x23 : Int) (x24 : LR) (x25 : LR) (x26 : LB) (x27 : LB) (x28 : LB) (x29 : Int) (x30 : Int) (x31 : LR) (x32 : Int) (x33 : Int) (x34 : LR) (x35 : LB) (x36 : Int) (x37 : Int) (x38 : Int) (x39 : Int) (K : Bool → Option α) : T32a (fun t0 t1 => T32aj2 (fun t0 t1 t2 => T32aj4 K x0 x1 x2 x3 x4 x5 x6 x7 x8 x9 x10 x11 x12 x13 x14 x15 x16 x17 x18 x19 x20 x21 x22 x23 x24 x25 x26 x27 x28 x29 x30 x31 x32 x33 x34 x35 x36 x37 x38 x39 t0 t1 t2) K x0 x1 x2 x3 x4 x5 x6 x7 x8 x9 x10 x11 x12 x13 x14 x15 x16 x17 x18 x19 x20 x21 x22 x23 x24 x25 x26 x27 x28 x29 x30 x31 x32 x33 x34 x35 x36 x37 x38 x39 t0 t1) K x0 x1 x2 x3 x4 x5 x6 x7 x8 x9 x10 x11 x12 x13 x14 x15 x16 x17 x18 x19 x20 x21 x22 x23 x24 x25 x26 x27 x28 x29 x30 x31 x32 x33 x34 x35 x36 x37 x38 x39 = K (bareB x0 x1 x2 x3 x4 x5 x6 x7 x8 x9 x10 x11 x12 x13 x14 x15 x16 x17 x18 x19 x20 x21 x22 x23 x24 x25 x26 x27 x28 x29 x30 x31 x32 x33 x34 x35 x36 x37 x38 x39) := by
  unfold T32a T32aj2 T32aj4 bareB
  simp only [rlen_nat]
  simp only [push2 K, seq_dec, ieq_dec, condA, Bool.and_true, Bool.false_and, Bool.and_false]
  congr 1
  cases decide (x1 = x21) <;> try simp only [Bool.false_and, Bool.true_and, cond_false, cond_true, condA, Bool.cond_self]
  cases decide (x2 = x22) <;> try simp only [Bool.false_and, Bool.true_and, cond_false, cond_true, condA, Bool.cond_self]
  cases decide (x3 = x23) <;> try simp only [Bool.false_and, Bool.true_and, cond_false, cond_true, condA, Bool.cond_self]
  cases decide (x4.length = x24.length) <;> try simp only [Bool.false_and, Bool.true_and, cond_false, cond_true, condA, Bool.cond_self]
  cases decide (x5.length = x25.length) <;> try simp only [Bool.false_and, Bool.true_and, cond_false, cond_true, condA, Bool.cond_self]
  cases decide (x10 = x30) <;> try simp only [Bool.false_and, Bool.true_and, cond_false, cond_true, condA, Bool.cond_self]
  cases decide (x12 = x32) <;> try simp only [Bool.false_and, Bool.true_and, cond_false, cond_true, condA, Bool.cond_self]
  cases decide (x11.length = x31.length) <;> try simp only [Bool.false_and, Bool.true_and, cond_false, cond_true, condA, Bool.cond_self]
  cases decide (x13 = x33) <;> try simp only [Bool.false_and, Bool.true_and, cond_false, cond_true, condA, Bool.cond_self]
  cases decide (x14.length = x34.length) <;> try simp only [Bool.false_and, Bool.true_and, cond_false, cond_true, condA, Bool.cond_self]
  all_goals simp only [Bool.and_assoc, Bool.and_false, Bool.cond_self]
theorem e32a {α : Type} (k : Nat) (x0 : Int) (x1 : LB) (x2 : Int) (x3 : Int) (x4 : LR) (x5 : LR) (x6 : LB) (x7 : LB) (x8 : LB) (x9 : Int) (x10 : Int) (x11 : LR) (x12 : Int) (x13 : Int) (x14 : LR) (x15 : LB) (x16 : Int) (x17 : Int) (x18 : Int) (x19 : Int) (x20 : Int) (x21 : LB) (x22 : Int) (x23 : Int) (x24 : LR) (x25 : LR) (x26 : LB) (x27 : LB) (x28 : LB) (x29 : Int) (x30 : Int) (x31 : LR) (x32 : Int) (x33 : Int) (x34 : LR) (x35 : LB) (x36 : Int) (x37 : Int) (x38 : Int) (x39 : Int) (K : Bool → Option α) : f32a k x0 x1 x2 x3 x4 x5 x6 x7 x8 x9 x10 x11 x12 x13 x14 x15 x16 x17 x18 x19 x20 x21 x22 x23 x24 x25 x26 x27 x28 x29 x30 x31 x32 x33 x34 x35 x36 x37 x38 x39 K = K (bareB x0 x1 x2 x3 x4 x5 x6 x7 x8 x9 x10 x11 x12 x13 x14 x15 x16 x17 x18 x19 x20 x21 x22 x23 x24 x25 x26 x27 x28 x29 x30 x31 x32 x33 x34 x35 x36 x37 x38 x39) := bare_core x0 x1 x2 x3 x4 x5 x6 x7 x8 x9 x10 x11 x12 x13 x14 x15 x16 x17 x18 x19 x20 x21 x22 x23 x24 x25 x26 x27 x28 x29 x30 x31 x32 x33 x34 x35 x36 x37 x38 x39 K
theorem e32b {α : Type} (k : Nat) (x0 : Int) (x1 : LB) (x2 : Int) (x3 : Int) (x4 : LR) (x5 : LR) (x6 : LB) (x7 : LB) (x8 : LB) (x9 : Int) (x10 : Int) (x11 : LR) (x12 : Int) (x13 : Int) (x14 : LR) (x15 : LB) (x16 : Int) (x17 : Int) (x18 : Int) (x19 : Int) (x20 : Int) (x21 : LB) (x22 : Int) (x23 : Int) (x24 : LR) (x25 : LR) (x26 : LB) (x27 : LB) (x28 : LB) (x29 : Int) (x30 : Int) (x31 : LR) (x32 : Int) (x33 : Int) (x34 : LR) (x35 : LB) (x36 : Int) (x37 : Int) (x38 : Int) (x39 : Int) (K : Bool → Option α) : f32b k x0 x1 x2 x3 x4 x5 x6 x7 x8 x9 x10 x11 x12 x13 x14 x15 x16 x17 x18 x19 x20 x21 x22 x23 x24 x25 x26 x27 x28 x29 x30 x31 x32 x33 x34 x35 x36 x37 x38 x39 K = K (bareB x0 x1 x2 x3 x4 x5 x6 x7 x8 x9 x10 x11 x12 x13 x14 x15 x16 x17 x18 x19 x20 x21 x22 x23 x24 x25 x26 x27 x28 x29 x30 x31 x32 x33 x34 x35 x36 x37 x38 x39) := bare_core x0 x1 x2 x3 x4 x5 x6 x7 x8 x9 x10 x11 x12 x13 x14 x15 x16 x17 x18 x19 x20 x21 x22 x23 x24 x25 x26 x27 x28 x29 x30 x31 x32 x33 x34 x35 x36 x37 x38 x39 K
theorem e32c {α : Type} (k : Nat) (x0 : Int) (x1 : LB) (x2 : Int) (x3 : Int) (x4 : LR) (x5 : LR) (x6 : LB) (x7 : LB) (x8 : LB) (x9 : Int) (x10 : Int) (x11 : LR) (x12 : Int) (x13 : Int) (x14 : LR) (x15 : LB) (x16 : Int) (x17 : Int) (x18 : Int) (x19 : Int) (x20 : Int) (x21 : LB) (x22 : Int) (x23 : Int) (x24 : LR) (x25 : LR) (x26 : LB) (x27 : LB) (x28 : LB) (x29 : Int) (x30 : Int) (x31 : LR) (x32 : Int) (x33 : Int) (x34 : LR) (x35 : LB) (x36 : Int) (x37 : Int) (x38 : Int) (x39 : Int) (K : Bool → Option α) : f32c k x0 x1 x2 x3 x4 x5 x6 x7 x8 x9 x10 x11 x12 x13 x14 x15 x16 x17 x18 x19 x20 x21 x22 x23 x24 x25 x26 x27 x28 x29 x30 x31 x32 x33 x34 x35 x36 x37 x38 x39 K = K (bareB x0 x1 x2 x3 x4 x5 x6 x7 x8 x9 x10 x11 x12 x13 x14 x15 x16 x17 x18 x19 x20 x21 x22 x23 x24 x25 x26 x27 x28 x29 x30 x31 x32 x33 x34 x35 x36 x37 x38 x39) := bare_core x0 x1 x2 x3 x4 x5 x6 x7 x8 x9 x10 x11 x12 x13 x14 x15 x16 x17 x18 x19 x20 x21 x22 x23 x24 x25 x26 x27 x28 x29 x30 x31 x32 x33 x34 x35 x36 x37 x38 x39 K
theorem e32d {α : Type} (k : Nat) (x0 : Int) (x1 : LB) (x2 : Int) (x3 : Int) (x4 : LR) (x5 : LR) (x6 : LB) (x7 : LB) (x8 : LB) (x9 : Int) (x10 : Int) (x11 : LR) (x12 : Int) (x13 : Int) (x14 : LR) (x15 : LB) (x16 : Int) (x17 : Int) (x18 : Int) (x19 : Int) (x20 : Int) (x21 : LB) (x22 : Int) (x23 : Int) (x24 : LR) (x25 : LR) (x26 : LB) (x27 : LB) (x28 : LB) (x29 : Int) (x30 : Int) (x31 : LR) (x32 : Int) (x33 : Int) (x34 : LR) (x35 : LB) (x36 : Int) (x37 : Int) (x38 : Int) (x39 : Int) (K : Bool → Option α) : f32d k x0 x1 x2 x3 x4 x5 x6 x7 x8 x9 x10 x11 x12 x13 x14 x15 x16 x17 x18 x19 x20 x21 x22 x23 x24 x25 x26 x27 x28 x29 x30 x31 x32 x33 x34 x35 x36 x37 x38 x39 K = K (bareB x0 x1 x2 x3 x4 x5 x6 x7 x8 x9 x10 x11 x12 x13 x14 x15 x16 x17 x18 x19 x20 x21 x22 x23 x24 x25 x26 x27 x28 x29 x30 x31 x32 x33 x34 x35 x36 x37 x38 x39) := bare_core x0 x1 x2 x3 x4 x5 x6 x7 x8 x9 x10 x11 x12 x13 x14 x15 x16 x17 x18 x19 x20 x21 x22 x23 x24 x25 x26 x27 x28 x29 x30 x31 x32 x33 x34 x35 x36 x37 x38 x39 K
/-- may an action be? -/
def mayA (x0 : Int) (x1 : LB) (x2 : Int) (x3 : Int) (x4 : LR) (x5 : LR) (x6 : LB) (x7 : LB) (x8 : LB) (x9 : Int) (x10 : Int) (x11 : LR) (x12 : Int) (x13 : Int) (x14 : LR) (x15 : LB) (x16 : Int) (x17 : Int) (x18 : Int) (x19 : Int) : Bool := bif ieq x0 0 then (bif fileB x1 x2 x3 x4 x5 then bareB x0 x1 x2 x3 x4 x5 x6 x7 x8 x9 x10 x11 x12 x13 x14 x15 x16 x17 x18 x19 x0 x1 x2 x3 x4 x5 [] [] [] 0 0 [] 0 0 [] [] 0 0 0 0 else false) else (bif ieq x0 1 then (bif keyB x6 then bareB x0 x1 x2 x3 x4 x5 x6 x7 x8 x9 x10 x11 x12 x13 x14 x15 x16 x17 x18 x19 x0 [] 0 0 [] [] x6 [] [] 0 0 [] 0 0 [] [] 0 0 0 0 else false) else (bif ieq x0 2 then (bif markB x7 x8 x9 then bareB x0 x1 x2 x3 x4 x5 x6 x7 x8 x9 x10 x11 x12 x13 x14 x15 x16 x17 x18 x19 x0 [] 0 0 [] [] [] x7 x8 x9 0 [] 0 0 [] [] 0 0 0 0 else false) else (bif ieq x0 3 then (bif schemaB x10 x11 x12 then bareB x0 x1 x2 x3 x4 x5 x6 x7 x8 x9 x10 x11 x12 x13 x14 x15 x16 x17 x18 x19 x0 [] 0 0 [] [] [] [] [] 0 x10 x11 x12 0 [] [] 0 0 0 0 else false) else (bif ieq x0 4 then (bif specB x13 x14 then bareB x0 x1 x2 x3 x4 x5 x6 x7 x8 x9 x10 x11 x12 x13 x14 x15 x16 x17 x18 x19 x0 [] 0 0 [] [] [] [] [] 0 0 [] 0 x13 x14 [] 0 0 0 0 else false) else (bif ieq x0 5 then (bif keyB x15 then bareB x0 x1 x2 x3 x4 x5 x6 x7 x8 x9 x10 x11 x12 x13 x14 x15 x16 x17 x18 x19 x0 [] 0 0 [] [] [] [] [] 0 0 [] 0 0 [] x15 0 0 0 0 else false) else (bif ieq x0 6 then (bif infoB x16 x17 x18 x19 then bareB x0 x1 x2 x3 x4 x5 x6 x7 x8 x9 x10 x11 x12 x13 x14 x15 x16 x17 x18 x19 x0 [] 0 0 [] [] [] [] [] 0 0 [] 0 0 [] [] x16 x17 x18 x19 else false) else (false)))))))
theorem f9 {α : Type} (k : Nat) (hk : 100 ≤ k) (x0 : Int) (x1 : LB) (x2 : Int) (x3 : Int) (x4 : LR) (x5 : LR) (x6 : LB) (x7 : LB) (x8 : LB) (x9 : Int) (x10 : Int) (x11 : LR) (x12 : Int) (x13 : Int) (x14 : LR) (x15 : LB) (x16 : Int) (x17 : Int) (x18 : Int) (x19 : Int) (K : Bool → Option α) : f9a k x0 x1 x2 x3 x4 x5 x6 x7 x8 x9 x10 x11 x12 x13 x14 x15 x16 x17 x18 x19 K = K (mayA x0 x1 x2 x3 x4 x5 x6 x7 x8 x9 x10 x11 x12 x13 x14 x15 x16 x17 x18 x19) := by
  have h9 : h9a_0 x0 x1 x10 x11 x12 x13 x14 x15 x16 x17 x18 x19 x2 x3 x4 x5 x6 x7 x8 x9 = true := by unfold h9a_0; exact sameOs_self (by intro o ho; simp only [List.mem_singleton] at ho; exact ⟨_, ho⟩)
  unfold f9a T9a mayA
  simp only [f25 k hk, f26 k (by omega : 95 ≤ k), f27 k (by omega : 95 ≤ k), f28 k hk, f29 k hk, f30 k (by omega : 95 ≤ k), f31, e32a, e32b, e32c, e32d, h9, cond_true, push2 K]
/-- an action's row -/
def mayRow (r : List AV) : Bool := mayA (toI (lget r 0 .unk)) (toS (lget r 1 .unk)) (toI (lget r 2 .unk)) (toI (lget r 3 .unk)) (toR (lget r 4 .unk)) (toR (lget r 5 .unk)) (toS (lget r 6 .unk)) (toS (lget r 7 .unk)) (toS (lget r 8 .unk)) (toI (lget r 9 .unk)) (toI (lget r 10 .unk)) (toR (lget r 11 .unk)) (toI (lget r 12 .unk)) (toI (lget r 13 .unk)) (toR (lget r 14 .unk)) (toS (lget r 15 .unk)) (toI (lget r 16 .unk)) (toI (lget r 17 .unk)) (toI (lget r 18 .unk)) (toI (lget r 19 .unk))
end Go.AI

/-
  PLAIN LAWS: actions as JSON.
-/
set_option maxRecDepth 100000
set_option linter.unusedVariables false
set_option linter.unusedSimpArgs false
namespace Go.AI
open Go.Proofs

/-- a JSON value -/
inductive J where
  | null | bool (b : Bool) | int (n : Int) | text (s : LB) | list (l : List J) | obj (ks : List LB) (l : List J)
def keyRow (k : LB) : List AV := [.s k]
mutual
def row : J → List AV
  | .null => [.i .i64 0, .b false, .i .i64 0, .s [], .lst 83 [] .view, .lst 9 [] .view]
  | .bool b => [.i .i64 1, .b b, .i .i64 0, .s [], .lst 83 [] .view, .lst 9 [] .view]
  | .int n => [.i .i64 2, .b false, .i .i64 n, .s [], .lst 83 [] .view, .lst 9 [] .view]
  | .text s => [.i .i64 3, .b false, .i .i64 0, .s s, .lst 83 [] .view, .lst 9 [] .view]
  | .list l => [.i .i64 4, .b false, .i .i64 0, .s [], .lst 83 (rowsJ l) .view, .lst 9 [] .view]
  | .obj ks l => [.i .i64 5, .b false, .i .i64 0, .s [], .lst 83 (rowsJ l) .view, .lst 9 (ks.map keyRow) .view]
def rowsJ : List J → LR
  | [] => []
  | j :: l => row j :: rowsJ l
end
theorem rowsJ_map : ∀ l : List J, rowsJ l = l.map row
  | [] => by simp [rowsJ]
  | j :: l => by simp [rowsJ, rowsJ_map l]
theorem rowsJ_len (l : List J) : (rowsJ l).length = l.length := by rw [rowsJ_map]; simp
theorem rowsJ_app (l m : List J) : rowsJ (l ++ m) = rowsJ l ++ rowsJ m := by simp [rowsJ_map]
def pairRow (p : LB × J) : List AV := .s p.1 :: row p.2
theorem row_back (j : J) (k : LB) : [AV.i .i64 (toI (lget (.s k :: row j) 1 .unk)), .b (toB (lget (.s k :: row j) 2 .unk)), .i .i64 (toI (lget (.s k :: row j) 3 .unk)), .s (toS (lget (.s k :: row j) 4 .unk)), .lst 83 (toR (lget (.s k :: row j) 5 .unk)) .view, .lst 9 (toR (lget (.s k :: row j) 6 .unk)) .view] = row j := by
  cases j <;> simp only [row, lget, toI, toB, toS, toR]
theorem room_in {n b : Nat} (h : n * b ≤ 140737488355328) : room n b = true := Nat.ble_eq_true_of_le h
theorem obj_run {α : Type} (k : Nat) (K : LR → LR → Option α) : ∀ (l : List (LB × J)) (f : Nat) (pre : List (LB × J)), l.length < f → (pre ++ l).length ≤ 1000 →
    L113al0 k K ((pre ++ l).map pairRow) f (pre.length : Int) (rowsJ (pre.map (·.2))) (pre.map fun p => keyRow p.1) = K (rowsJ ((pre ++ l).map (·.2))) ((pre ++ l).map fun p => keyRow p.1) := by
  intro l
  induction l with
  | nil =>
    intro f pre hf hb
    obtain ⟨f, rfl⟩ : ∃ g, f = g + 1 := ⟨f - 1, by omega⟩
    have : ilt (pre.length : Int) (rlen ((pre ++ []).map pairRow)) = false := by simp [ilt, rlen]
    simp only [L113al0, T113al0, this, cond_false]
    simp only [List.append_nil]
  | cons p l ih =>
    intro f pre hf hb
    obtain ⟨f, rfl⟩ : ∃ g, f = g + 1 := ⟨f - 1, by omega⟩
    have hl : (pre ++ p :: l).length = pre.length + (l.length + 1) := by simp
    have e0 : (pre ++ p :: l).map pairRow = pre.map pairRow ++ pairRow p :: l.map pairRow := by simp
    have e1 : ilt (pre.length : Int) (rlen ((pre ++ p :: l).map pairRow)) = true := by simp [ilt, rlen]; omega
    have e2 : rget ((pre ++ p :: l).map pairRow) (pre.length : Int) = pairRow p := by
      rw [e0, show (pre.length : Int) = ((pre.map pairRow).length : Int) by simp]; exact rget_pre _ _ _
    have e3 : room ((pre.map fun p => keyRow p.1).length + 1) 16 = true := room_in (by simp; omega)
    have e4 : room ((rowsJ (pre.map (·.2))).length + 1) 88 = true := room_in (by rw [rowsJ_len]; simp; omega)
    have e5 : h113a_0 (rowsJ (pre.map (·.2))) (pre.length : Int) ((pre ++ p :: l).map pairRow) = rowsJ ((pre ++ [p]).map (·.2)) := by
      unfold h113a_0
      rw [e2]
      unfold pairRow
      rw [row_back]
      simp [rowsJ_map, radd]
    have e6 : radd (pre.map fun p => keyRow p.1) [[.s (toS (lget (pairRow p) 0 .unk))]] = (pre ++ [p]).map fun p => keyRow p.1 := by
      simp [radd, pairRow, lget, toS, keyRow]
    simp only [L113al0, T113al0, e1, ile_pre, e3, e4, cond_true, e5, e2, e6, wadd_pre pre p (by omega)]
    rw [app_snoc pre p l]
    exact ih f (pre ++ [p]) (by simpa using hf) (by rw [← app_snoc]; exact hb)
theorem f113 {α : Type} (k : Nat) (ps : List (LB × J)) (hk : ps.length < k) (hb : ps.length ≤ 1000) (K : LR → LR → Option α) : f113a k (ps.map pairRow) K = K (rowsJ (ps.map (·.2))) (ps.map fun p => keyRow p.1) := by
  unfold f113a T113a
  exact obj_run k K ps k [] hk (by simpa using hb)

def scalarJ (x0 x1 : Int) (x2 : Bool) (x3 : LB) : J := bif ieq x0 1 then .int x1 else (bif ieq x0 2 then .bool x2 else (bif ieq x0 3 then .text x3 else .null))
def valJ (r : List AV) : J := scalarJ (toI (lget r 0 .unk)) (toI (lget r 1 .unk)) (toB (lget r 2 .unk)) (toS (lget r 3 .unk))
/-- a scalar's four parts -/
def sK (j : J) : Int := toI (lget (row j) 0 .unk)
def sB (j : J) : Bool := toB (lget (row j) 1 .unk)
def sN (j : J) : Int := toI (lget (row j) 2 .unk)
def sS (j : J) : LB := toS (lget (row j) 3 .unk)
theorem f117 {α : Type} (k : Nat) (x0 x1 : Int) (x2 : Bool) (x3 : LB) (K : Int → Bool → Int → LB → Option α) : f117a k x0 x1 x2 x3 K = K (sK (scalarJ x0 x1 x2 x3)) (sB (scalarJ x0 x1 x2 x3)) (sN (scalarJ x0 x1 x2 x3)) (sS (scalarJ x0 x1 x2 x3)) := by
  unfold f117a T117a scalarJ
  cases ieq x0 1
  · cases ieq x0 2
    · cases ieq x0 3 <;> rfl
    · rfl
  · rfl
theorem scalar_row (x0 x1 : Int) (x2 : Bool) (x3 : LB) : [AV.i .i64 (sK (scalarJ x0 x1 x2 x3)), .b (sB (scalarJ x0 x1 x2 x3)), .i .i64 (sN (scalarJ x0 x1 x2 x3)), .s (sS (scalarJ x0 x1 x2 x3)), .lst 83 [] .view, .lst 9 [] .view] = row (scalarJ x0 x1 x2 x3) := by
  unfold scalarJ
  cases ieq x0 1
  · cases ieq x0 2
    · cases ieq x0 3 <;> rfl
    · rfl
  · rfl
def objJ (ps : List (LB × J)) : J := .obj (ps.map (·.1)) (ps.map (·.2))
theorem row_objJ (ps : List (LB × J)) : [AV.i .i64 5, .b false, .i .i64 0, .s [], .lst 83 (rowsJ (ps.map (·.2))) .view, .lst 9 (ps.map fun p => keyRow p.1) .view] = row (objJ ps) := by
  simp [objJ, row]
def statPs (x0 x1 x2 x3 : Int) (x4 : Bool) (x5 : LB) (x6 x7 : Int) (x8 : Bool) (x9 : LB) : List (LB × J) := [([99, 111, 108], .int x0), ([110, 117, 108, 108, 115], .int x1), ([109, 105, 110], scalarJ x2 x3 x4 x5), ([109, 97, 120], scalarJ x6 x7 x8 x9)]
theorem f119 {α : Type} (k : Nat) (hk : 10 ≤ k) (x0 x1 x2 x3 : Int) (x4 : Bool) (x5 : LB) (x6 x7 : Int) (x8 : Bool) (x9 : LB) (K : LR → LR → Option α) : f119a k x0 x1 x2 x3 x4 x5 x6 x7 x8 x9 K = K (rowsJ ((statPs x0 x1 x2 x3 x4 x5 x6 x7 x8 x9).map (·.2))) ((statPs x0 x1 x2 x3 x4 x5 x6 x7 x8 x9).map fun p => keyRow p.1) := by
  unfold f119a T119a
  simp only [f115a, T115a, f117]
  simp only [scalar_row]
  exact f113 k (statPs x0 x1 x2 x3 x4 x5 x6 x7 x8 x9) (by simp only [statPs, List.length_cons, List.length_nil]; omega) (by simp only [statPs, List.length_cons, List.length_nil]; omega) K
def statJ (r : List AV) : J := objJ (statPs (toI (lget r 0 .unk)) (toI (lget r 1 .unk)) (toI (lget r 2 .unk)) (toI (lget r 3 .unk)) (toB (lget r 4 .unk)) (toS (lget r 5 .unk)) (toI (lget r 6 .unk)) (toI (lget r 7 .unk)) (toB (lget r 8 .unk)) (toS (lget r 9 .unk)))
def colPs (x0 : Int) (x1 : LB) (x2 : Int) : List (LB × J) := [([105, 100], .int x0), ([110, 97, 109, 101], .text x1), ([107, 105, 110, 100], .int x2)]
theorem f121 {α : Type} (k : Nat) (hk : 10 ≤ k) (x0 : Int) (x1 : LB) (x2 : Int) (K : LR → LR → Option α) : f121a k x0 x1 x2 K = K (rowsJ ((colPs x0 x1 x2).map (·.2))) ((colPs x0 x1 x2).map fun p => keyRow p.1) := by
  unfold f121a T121a
  simp only [f115a, T115a, f114a, T114a]
  exact f113 k (colPs x0 x1 x2) (by simp only [colPs, List.length_cons, List.length_nil]; omega) (by simp only [colPs, List.length_cons, List.length_nil]; omega) K
def colJ (r : List AV) : J := objJ (colPs (toI (lget r 0 .unk)) (toS (lget r 1 .unk)) (toI (lget r 2 .unk)))
def fieldPs (x0 x1 x2 : Int) : List (LB × J) := [([115, 111, 117, 114, 99, 101], .int x0), ([116, 114, 97, 110, 115], .int x1), ([112, 97, 114, 97, 109], .int x2)]
theorem f123 {α : Type} (k : Nat) (hk : 10 ≤ k) (x0 x1 x2 : Int) (K : LR → LR → Option α) : f123a k x0 x1 x2 K = K (rowsJ ((fieldPs x0 x1 x2).map (·.2))) ((fieldPs x0 x1 x2).map fun p => keyRow p.1) := by
  unfold f123a T123a
  simp only [f115a, T115a]
  exact f113 k (fieldPs x0 x1 x2) (by simp only [fieldPs, List.length_cons, List.length_nil]; omega) (by simp only [fieldPs, List.length_cons, List.length_nil]; omega) K
def fieldJ (r : List AV) : J := objJ (fieldPs (toI (lget r 0 .unk)) (toI (lget r 1 .unk)) (toI (lget r 2 .unk)))
theorem run116 {α : Type} (k : Nat) (hk : 10 ≤ k) (K : LR → Option α) : ∀ (l : LR) (f : Nat) (pre : LR), l.length < f → (pre ++ l).length ≤ 1000000000000 →
    L116al0 k K (pre ++ l) f (pre.length : Int) (rowsJ (pre.map valJ)) = K (rowsJ ((pre ++ l).map valJ)) := by
  intro l
  induction l with
  | nil =>
    intro f pre hf hb
    obtain ⟨f, rfl⟩ : ∃ g, f = g + 1 := ⟨f - 1, by omega⟩
    simp only [L116al0, T116al0, ilt_end, cond_false]
    simp only [List.append_nil]
  | cons r l ih =>
    intro f pre hf hb
    obtain ⟨f, rfl⟩ : ∃ g, f = g + 1 := ⟨f - 1, by omega⟩
    have hl : (pre ++ r :: l).length = pre.length + (l.length + 1) := by simp
    have e4 : room ((rowsJ (pre.map valJ)).length + 1) 88 = true := room_in (by rw [rowsJ_len]; simp; omega)
    have e5 : radd (rowsJ (pre.map valJ)) [row (valJ r)] = rowsJ ((pre ++ [r]).map valJ) := by simp [rowsJ_map, radd]
    simp only [L116al0, T116al0, ilt_pre, ile_pre, rget_pre, cond_true, f117, e4, wadd_pre pre r (by omega)]
    rw [scalar_row]
    rw [show valJ r = valJ r from rfl] at e5
    refine (congrArg _ ?_).trans ((congrArg (fun x => L116al0 k K x f _ _) (app_snoc pre r l)).trans (ih f (pre ++ [r]) (by simpa using hf) (by rw [← app_snoc]; exact hb))) |>.trans (by rw [← app_snoc])
    exact e5
theorem f116 {α : Type} (k : Nat) (x : LR) (hk : 10 ≤ k) (hx : x.length < k) (hb : x.length ≤ 1000000000000) (K : LR → Option α) : f116a k x K = K (rowsJ (x.map valJ)) := by
  unfold f116a T116a
  exact run116 k hk K x k [] hx (by simpa using hb)
theorem run118 {α : Type} (k : Nat) (hk : 10 ≤ k) (K : LR → Option α) : ∀ (l : LR) (f : Nat) (pre : LR), l.length < f → (pre ++ l).length ≤ 1000000000000 →
    L118al0 k K (pre ++ l) f (pre.length : Int) (rowsJ (pre.map statJ)) = K (rowsJ ((pre ++ l).map statJ)) := by
  intro l
  induction l with
  | nil =>
    intro f pre hf hb
    obtain ⟨f, rfl⟩ : ∃ g, f = g + 1 := ⟨f - 1, by omega⟩
    simp only [L118al0, T118al0, ilt_end, cond_false]
    simp only [List.append_nil]
  | cons r l ih =>
    intro f pre hf hb
    obtain ⟨f, rfl⟩ : ∃ g, f = g + 1 := ⟨f - 1, by omega⟩
    have hl : (pre ++ r :: l).length = pre.length + (l.length + 1) := by simp
    have e4 : room ((rowsJ (pre.map statJ)).length + 1) 88 = true := room_in (by rw [rowsJ_len]; simp; omega)
    have e5 : radd (rowsJ (pre.map statJ)) [row (statJ r)] = rowsJ ((pre ++ [r]).map statJ) := by simp [rowsJ_map, radd]
    simp only [L118al0, T118al0, ilt_pre, ile_pre, rget_pre, cond_true, f119 k hk, e4, wadd_pre pre r (by omega)]
    rw [row_objJ]
    rw [show statJ r = statJ r from rfl] at e5
    refine (congrArg _ ?_).trans ((congrArg (fun x => L118al0 k K x f _ _) (app_snoc pre r l)).trans (ih f (pre ++ [r]) (by simpa using hf) (by rw [← app_snoc]; exact hb))) |>.trans (by rw [← app_snoc])
    exact e5
theorem f118 {α : Type} (k : Nat) (x : LR) (hk : 10 ≤ k) (hx : x.length < k) (hb : x.length ≤ 1000000000000) (K : LR → Option α) : f118a k x K = K (rowsJ (x.map statJ)) := by
  unfold f118a T118a
  exact run118 k hk K x k [] hx (by simpa using hb)
theorem run120 {α : Type} (k : Nat) (hk : 10 ≤ k) (K : LR → Option α) : ∀ (l : LR) (f : Nat) (pre : LR), l.length < f → (pre ++ l).length ≤ 1000000000000 →
    L120al0 k K (pre ++ l) f (pre.length : Int) (rowsJ (pre.map colJ)) = K (rowsJ ((pre ++ l).map colJ)) := by
  intro l
  induction l with
  | nil =>
    intro f pre hf hb
    obtain ⟨f, rfl⟩ : ∃ g, f = g + 1 := ⟨f - 1, by omega⟩
    simp only [L120al0, T120al0, ilt_end, cond_false]
    simp only [List.append_nil]
  | cons r l ih =>
    intro f pre hf hb
    obtain ⟨f, rfl⟩ : ∃ g, f = g + 1 := ⟨f - 1, by omega⟩
    have hl : (pre ++ r :: l).length = pre.length + (l.length + 1) := by simp
    have e4 : room ((rowsJ (pre.map colJ)).length + 1) 88 = true := room_in (by rw [rowsJ_len]; simp; omega)
    have e5 : radd (rowsJ (pre.map colJ)) [row (colJ r)] = rowsJ ((pre ++ [r]).map colJ) := by simp [rowsJ_map, radd]
    simp only [L120al0, T120al0, ilt_pre, ile_pre, rget_pre, cond_true, f121 k hk, e4, wadd_pre pre r (by omega)]
    rw [row_objJ]
    rw [show colJ r = colJ r from rfl] at e5
    refine (congrArg _ ?_).trans ((congrArg (fun x => L120al0 k K x f _ _) (app_snoc pre r l)).trans (ih f (pre ++ [r]) (by simpa using hf) (by rw [← app_snoc]; exact hb))) |>.trans (by rw [← app_snoc])
    exact e5
theorem f120 {α : Type} (k : Nat) (x : LR) (hk : 10 ≤ k) (hx : x.length < k) (hb : x.length ≤ 1000000000000) (K : LR → Option α) : f120a k x K = K (rowsJ (x.map colJ)) := by
  unfold f120a T120a
  exact run120 k hk K x k [] hx (by simpa using hb)
theorem run122 {α : Type} (k : Nat) (hk : 10 ≤ k) (K : LR → Option α) : ∀ (l : LR) (f : Nat) (pre : LR), l.length < f → (pre ++ l).length ≤ 1000000000000 →
    L122al0 k K (pre ++ l) f (pre.length : Int) (rowsJ (pre.map fieldJ)) = K (rowsJ ((pre ++ l).map fieldJ)) := by
  intro l
  induction l with
  | nil =>
    intro f pre hf hb
    obtain ⟨f, rfl⟩ : ∃ g, f = g + 1 := ⟨f - 1, by omega⟩
    simp only [L122al0, T122al0, ilt_end, cond_false]
    simp only [List.append_nil]
  | cons r l ih =>
    intro f pre hf hb
    obtain ⟨f, rfl⟩ : ∃ g, f = g + 1 := ⟨f - 1, by omega⟩
    have hl : (pre ++ r :: l).length = pre.length + (l.length + 1) := by simp
    have e4 : room ((rowsJ (pre.map fieldJ)).length + 1) 88 = true := room_in (by rw [rowsJ_len]; simp; omega)
    have e5 : radd (rowsJ (pre.map fieldJ)) [row (fieldJ r)] = rowsJ ((pre ++ [r]).map fieldJ) := by simp [rowsJ_map, radd]
    simp only [L122al0, T122al0, ilt_pre, ile_pre, rget_pre, cond_true, f123 k hk, e4, wadd_pre pre r (by omega)]
    rw [row_objJ]
    rw [show fieldJ r = fieldJ r from rfl] at e5
    refine (congrArg _ ?_).trans ((congrArg (fun x => L122al0 k K x f _ _) (app_snoc pre r l)).trans (ih f (pre ++ [r]) (by simpa using hf) (by rw [← app_snoc]; exact hb))) |>.trans (by rw [← app_snoc])
    exact e5
theorem f122 {α : Type} (k : Nat) (x : LR) (hk : 10 ≤ k) (hx : x.length < k) (hb : x.length ≤ 1000000000000) (K : LR → Option α) : f122a k x K = K (rowsJ (x.map fieldJ)) := by
  unfold f122a T122a
  exact run122 k hk K x k [] hx (by simpa using hb)
/-- an action's one pair -/
def onePs (x0 : Int) (x1 : LB) (x2 : Int) (x3 : Int) (x4 : LR) (x5 : LR) (x6 : LB) (x7 : LB) (x8 : LB) (x9 : Int) (x10 : Int) (x11 : LR) (x12 : Int) (x13 : Int) (x14 : LR) (x15 : LB) (x16 : Int) (x17 : Int) (x18 : Int) (x19 : Int) : List (LB × J) := bif ieq x0 0 then [([97, 100, 100], objJ [([112, 97, 116, 104], .text x1), ([114, 111, 119, 115], .int x2), ([115, 112, 101, 99], .int x3), ([112, 97, 114, 116], .list (x4.map valJ)), ([115, 116, 97, 116, 115], .list (x5.map statJ))])] else (bif ieq x0 1 then [([114, 101, 109, 111, 118, 101], .text x6)] else (bif ieq x0 2 then [([109, 97, 114, 107], objJ [([112, 97, 116, 104], .text x7), ([102, 105, 108, 101], .text x8), ([114, 111, 119, 115], .int x9)])] else (bif ieq x0 3 then [([115, 99, 104, 101, 109, 97], objJ [([105, 100], .int x10), ([110, 101, 120, 116], .int x12), ([99, 111, 108, 117, 109, 110, 115], .list (x11.map colJ))])] else (bif ieq x0 4 then [([115, 112, 101, 99], objJ [([105, 100], .int x13), ([102, 105, 101, 108, 100, 115], .list (x14.map fieldJ))])] else (bif ieq x0 5 then [([116, 120, 110], .text x15)] else ([([105, 110, 102, 111], objJ [([99, 108, 105, 101, 110, 116], .int x16), ([115, 101, 113], .int x17), ([111, 112], .int x18), ([116, 105, 109, 101], .int x19)])]))))))
end Go.AI

/-
  PLAIN LAWS: actions as JSON, the rest.
-/
set_option maxRecDepth 100000
set_option linter.unusedVariables false
set_option linter.unusedSimpArgs false
namespace Go.AI
open Go.Proofs
theorem f70 {α : Type} (k : Nat) (hk : 10 ≤ k) (hk2 : k ≤ 1000000000000) (x0 : Int) (x1 : LB) (x2 : Int) (x3 : Int) (x4 : LR) (x5 : LR) (x6 : LB) (x7 : LB) (x8 : LB) (x9 : Int) (x10 : Int) (x11 : LR) (x12 : Int) (x13 : Int) (x14 : LR) (x15 : LB) (x16 : Int) (x17 : Int) (x18 : Int) (x19 : Int) (h4 : x4.length < k) (h5 : x5.length < k) (h11 : x11.length < k) (h14 : x14.length < k) (K : LR → LR → Option α) :
    f70a k x0 x1 x2 x3 x4 x5 x6 x7 x8 x9 x10 x11 x12 x13 x14 x15 x16 x17 x18 x19 K = K (rowsJ ((onePs x0 x1 x2 x3 x4 x5 x6 x7 x8 x9 x10 x11 x12 x13 x14 x15 x16 x17 x18 x19).map (·.2))) ((onePs x0 x1 x2 x3 x4 x5 x6 x7 x8 x9 x10 x11 x12 x13 x14 x15 x16 x17 x18 x19).map fun p => keyRow p.1) := by
  unfold f70a T70a onePs
  simp only [f115a, T115a, f114a, T114a]
  cases h0 : ieq x0 0
  · cases h1 : ieq x0 1
    · cases h2 : ieq x0 2
      · cases h3 : ieq x0 3
        · cases h4 : ieq x0 4
          · cases h5 : ieq x0 5
            · simp only [cond_false]
              refine (f113 k [([99, 108, 105, 101, 110, 116], J.int x16), ([115, 101, 113], J.int x17), ([111, 112], J.int x18), ([116, 105, 109, 101], J.int x19)] (by simp only [List.length_cons, List.length_nil]; omega) (by simp only [List.length_cons, List.length_nil]; omega) _).trans ?_
              exact f113 k [(([105, 110, 102, 111] : LB), objJ [([99, 108, 105, 101, 110, 116], J.int x16), ([115, 101, 113], J.int x17), ([111, 112], J.int x18), ([116, 105, 109, 101], J.int x19)])] (by simp only [List.length_cons, List.length_nil]; omega) (by simp only [List.length_cons, List.length_nil]; omega) K
            · simp only [cond_false, cond_true]
              exact f113 k [([116, 120, 110], J.text x15)] (by simp only [List.length_cons, List.length_nil]; omega) (by simp only [List.length_cons, List.length_nil]; omega) K
          · simp only [cond_false, cond_true]
            rw [f122 k x14 hk h14 (by omega)]
            refine (f113 k [([105, 100], J.int x13), ([102, 105, 101, 108, 100, 115], J.list (x14.map fieldJ))] (by simp only [List.length_cons, List.length_nil]; omega) (by simp only [List.length_cons, List.length_nil]; omega) _).trans ?_
            exact f113 k [(([115, 112, 101, 99] : LB), objJ [([105, 100], J.int x13), ([102, 105, 101, 108, 100, 115], J.list (x14.map fieldJ))])] (by simp only [List.length_cons, List.length_nil]; omega) (by simp only [List.length_cons, List.length_nil]; omega) K
        · simp only [cond_false, cond_true]
          rw [f120 k x11 hk h11 (by omega)]
          refine (f113 k [([105, 100], J.int x10), ([110, 101, 120, 116], J.int x12), ([99, 111, 108, 117, 109, 110, 115], J.list (x11.map colJ))] (by simp only [List.length_cons, List.length_nil]; omega) (by simp only [List.length_cons, List.length_nil]; omega) _).trans ?_
          exact f113 k [(([115, 99, 104, 101, 109, 97] : LB), objJ [([105, 100], J.int x10), ([110, 101, 120, 116], J.int x12), ([99, 111, 108, 117, 109, 110, 115], J.list (x11.map colJ))])] (by simp only [List.length_cons, List.length_nil]; omega) (by simp only [List.length_cons, List.length_nil]; omega) K
      · simp only [cond_false, cond_true]
        refine (f113 k [([112, 97, 116, 104], J.text x7), ([102, 105, 108, 101], J.text x8), ([114, 111, 119, 115], J.int x9)] (by simp only [List.length_cons, List.length_nil]; omega) (by simp only [List.length_cons, List.length_nil]; omega) _).trans ?_
        exact f113 k [(([109, 97, 114, 107] : LB), objJ [([112, 97, 116, 104], J.text x7), ([102, 105, 108, 101], J.text x8), ([114, 111, 119, 115], J.int x9)])] (by simp only [List.length_cons, List.length_nil]; omega) (by simp only [List.length_cons, List.length_nil]; omega) K
    · simp only [cond_false, cond_true]
      exact f113 k [([114, 101, 109, 111, 118, 101], J.text x6)] (by simp only [List.length_cons, List.length_nil]; omega) (by simp only [List.length_cons, List.length_nil]; omega) K
  · simp only [cond_false, cond_true]
    rw [f116 k x4 hk h4 (by omega)]
    rw [f118 k x5 hk h5 (by omega)]
    refine (f113 k [([112, 97, 116, 104], J.text x1), ([114, 111, 119, 115], J.int x2), ([115, 112, 101, 99], J.int x3), ([112, 97, 114, 116], J.list (x4.map valJ)), ([115, 116, 97, 116, 115], J.list (x5.map statJ))] (by simp only [List.length_cons, List.length_nil]; omega) (by simp only [List.length_cons, List.length_nil]; omega) _).trans ?_
    exact f113 k [(([97, 100, 100] : LB), objJ [([112, 97, 116, 104], J.text x1), ([114, 111, 119, 115], J.int x2), ([115, 112, 101, 99], J.int x3), ([112, 97, 114, 116], J.list (x4.map valJ)), ([115, 116, 97, 116, 115], J.list (x5.map statJ))])] (by simp only [List.length_cons, List.length_nil]; omega) (by simp only [List.length_cons, List.length_nil]; omega) K
def oneJ (r : List AV) : J := objJ (onePs (toI (lget r 0 .unk)) (toS (lget r 1 .unk)) (toI (lget r 2 .unk)) (toI (lget r 3 .unk)) (toR (lget r 4 .unk)) (toR (lget r 5 .unk)) (toS (lget r 6 .unk)) (toS (lget r 7 .unk)) (toS (lget r 8 .unk)) (toI (lget r 9 .unk)) (toI (lget r 10 .unk)) (toR (lget r 11 .unk)) (toI (lget r 12 .unk)) (toI (lget r 13 .unk)) (toR (lget r 14 .unk)) (toS (lget r 15 .unk)) (toI (lget r 16 .unk)) (toI (lget r 17 .unk)) (toI (lget r 18 .unk)) (toI (lget r 19 .unk)))
/-- the lists of an action's row are short -/
def shortRow (k : Nat) (r : List AV) : Prop := (toR (lget r 4 .unk)).length < k ∧ (toR (lget r 5 .unk)).length < k ∧ (toR (lget r 11 .unk)).length < k ∧ (toR (lget r 14 .unk)).length < k
theorem run69 {α : Type} (k : Nat) (hk : 10 ≤ k) (hk2 : k ≤ 1000000000000) (K : LR → Option α) : ∀ (l : LR) (f : Nat) (pre : LR), l.length < f → (pre ++ l).length ≤ 1000000000000 → (∀ r ∈ l, shortRow k r) →
    L69al0 k K (pre ++ l) f (pre.length : Int) (rowsJ (pre.map oneJ)) = K (rowsJ ((pre ++ l).map oneJ)) := by
  intro l
  induction l with
  | nil =>
    intro f pre hf hb hs
    obtain ⟨f, rfl⟩ : ∃ g, f = g + 1 := ⟨f - 1, by omega⟩
    simp only [L69al0, T69al0, ilt_end, cond_false]
    simp only [List.append_nil]
  | cons r l ih =>
    intro f pre hf hb hs
    obtain ⟨f, rfl⟩ : ∃ g, f = g + 1 := ⟨f - 1, by omega⟩
    have hl : (pre ++ r :: l).length = pre.length + (l.length + 1) := by simp
    have e4 : room ((rowsJ (pre.map oneJ)).length + 1) 88 = true := room_in (by rw [rowsJ_len]; simp; omega)
    have e5 : radd (rowsJ (pre.map oneJ)) [row (oneJ r)] = rowsJ ((pre ++ [r]).map oneJ) := by simp [rowsJ_map, radd]
    obtain ⟨s4, s5, s11, s14⟩ := hs r (by simp)
    simp only [L69al0, T69al0, ilt_pre, ile_pre, rget_pre, cond_true, e4, wadd_pre pre r (by omega)]
    rw [f70 k hk hk2 _ _ _ _ _ _ _ _ _ _ _ _ _ _ _ _ _ _ _ _ s4 s5 s11 s14]
    rw [row_objJ]
    refine (congrArg _ ?_).trans ((congrArg (fun x => L69al0 k K x f _ _) (app_snoc pre r l)).trans (ih f (pre ++ [r]) (by simpa using hf) (by rw [← app_snoc]; exact hb) fun q hq => hs q (by simp [hq]))) |>.trans (by rw [← app_snoc])
    exact e5
theorem f42 {α : Type} (k : Nat) (hk : 10 ≤ k) (hk2 : k ≤ 1000000000000) (x : LR) (hx : x.length < k) (hs : ∀ r ∈ x, shortRow k r) (K : LR → Option α) : f42a k x K = K (rowsJ (x.map oneJ)) := by
  unfold f42a T42a f69a T69a
  exact run69 k hk hk2 _ x k [] hx (by simp; omega) hs
end Go.AI

/-
  PLAIN LAWS: texts as they are printed.
-/
set_option maxRecDepth 100000
set_option linter.unusedVariables false
set_option linter.unusedSimpArgs false
namespace Go.AI
open Go.Proofs

/-- what adds to the text that is printed, or finds it too long -/
def Adds (F : (α : Type) → (LR → Option α) → (Int → LR → Option α) → Option α) (o t : LB) : Prop :=
  ((o ++ t).length ≤ 65536 ∧ ∀ (α : Type) (K : LR → Option α) (E : Int → LR → Option α), F α K E = K (byteRows (o ++ t))) ∨
  (65536 < (o ++ t).length ∧ ∃ (e : Int) (o' : LR), e ≠ 0 ∧ ∀ (α : Type) (K : LR → Option α) (E : Int → LR → Option α), F α K E = E e o')
theorem Adds.seq {F : (α : Type) → (LR → Option α) → (Int → LR → Option α) → Option α} {G : (α : Type) → LR → (LR → Option α) → (Int → LR → Option α) → Option α} {o t u : LB}
    (hF : Adds F o t) (hG : (o ++ t).length ≤ 65536 → Adds (fun α K E => G α (byteRows (o ++ t)) K E) (o ++ t) u) : Adds (fun α K E => F α (fun y => G α y K E) E) o (t ++ u) := by
  rcases hF with ⟨h1, h2⟩ | ⟨h1, e, o', he, h2⟩
  · rcases hG h1 with ⟨g1, g2⟩ | ⟨g1, e, o', he, g2⟩
    · refine .inl ⟨by rw [← List.append_assoc]; exact g1, fun α K E => ?_⟩
      refine (h2 α _ E).trans ?_
      rw [← List.append_assoc]; exact g2 α K E
    · refine .inr ⟨by rw [← List.append_assoc]; exact g1, e, o', he, fun α K E => ?_⟩
      exact (h2 α _ E).trans (g2 α K E)
  · refine .inr ⟨by simp only [List.length_append] at h1 ⊢; omega, e, o', he, fun α K E => h2 α _ E⟩
theorem Adds.congr {F F' : (α : Type) → (LR → Option α) → (Int → LR → Option α) → Option α} {o t : LB} (h : Adds F o t) (e : ∀ α K E, F' α K E = F α K E) : Adds F' o t := by
  have : F' = F := by funext α K E; exact e α K E
  rw [this]; exact h

theorem byteRows_app : ∀ a b : LB, radd (byteRows a) (byteRows b) = byteRows (a ++ b)
  | [], b => rfl
  | c :: a, b => by
    have := byteRows_app a b
    simp only [radd] at this ⊢
    simp [byteRows, this]
theorem bytes_back : ∀ a : LB, bytesOf (byteRows a) = a
  | [] => rfl
  | c :: a => by simp [bytesOf, byteRows, lget, toI, bytes_back a]
theorem adds108 (k : Nat) (x o : LB) (ho : o.length ≤ 65536) (hx : x.length ≤ 1000000000000) : Adds (fun α K E => f108a k x (byteRows o) K E) o x := by
  have hr : room ((byteRows o).length + x.length) 1 = true := room_in (by rw [byteRows_length]; omega)
  unfold Adds
  simp only [f108a, T108a, hr, cond_true, byteRows_app]
  by_cases h : (o ++ x).length ≤ 65536
  · have : igt (rlen (byteRows (o ++ x))) 65536 = false := by simp only [igt, rlen, byteRows_length]; exact decide_eq_false (by omega)
    exact .inl ⟨h, fun α K E => by rw [this]; rfl⟩
  · have : igt (rlen (byteRows (o ++ x))) 65536 = true := by simp only [igt, rlen, byteRows_length]; exact decide_eq_true (by omega)
    exact .inr ⟨by omega, 302, _, by decide, fun α K E => by rw [this]; rfl⟩

/-- a byte as it stands in a JSON text -/
noncomputable def esc (c : UInt8) : LB :=
  bif (bif ieq (c.toNat : Int) 34 then true else ieq (c.toNat : Int) 92) then bytesOf [[.i .u8 92], [.i .u8 (c.toNat : Int)]] else (bif ieq (c.toNat : Int) 8 then [92, 98] else (bif ieq (c.toNat : Int) 12 then [92, 102] else (bif ieq (c.toNat : Int) 10 then [92, 110]
    else (bif ieq (c.toNat : Int) 13 then [92, 114] else (bif ieq (c.toNat : Int) 9 then [92, 116] else (bif ilt (c.toNat : Int) 32 then sadd [92, 117, 48, 48] (h111a_1 (c.toNat : Int)) else [c]))))))
theorem esc_len (c : UInt8) : (esc c).length ≤ 6 := by
  have : ∀ c : Fin 256, (esc (UInt8.ofNat c.1)).length ≤ 6 := by decide +kernel
  simpa using this ⟨c.toNat, c.toNat_lt⟩
noncomputable def quoteTail (l : LB) : LB := l.flatMap esc ++ [34]
noncomputable def quoteP (l : LB) : LB := 34 :: quoteTail l
theorem wrem16 (c : UInt8) : ile 0 (wrem (c.toNat : Int) 16) = true ∧ ilt (wrem (c.toNat : Int) 16) 16 = true := by
  have : ∀ c : Fin 256, ile 0 (wrem (((UInt8.ofNat c.1)).toNat : Int) 16) = true ∧ ilt (wrem (((UInt8.ofNat c.1)).toNat : Int) 16) 16 = true := by decide +kernel
  simpa using this ⟨c.toNat, c.toNat_lt⟩
theorem ssub_pre (pre : LB) (c : UInt8) (l : LB) : ssub (pre ++ c :: l) (pre.length : Int) ((pre ++ [c]).length : Int) = [c] := by
  simp only [ssub, Int.toNat_natCast, ldrop_eq]
  have e : pre ++ c :: l = (pre ++ [c]) ++ l := app_snoc pre c l
  rw [e, List.take_left' rfl]
  simp
theorem text_step {α : Type} (k f : Nat) (pre : LB) (c : UInt8) (l : LB) (hb : (pre ++ c :: l).length < 9223372036854775800) (out : LR) (K : LR → Option α) (E : Int → LR → Option α) :
    L111al0 k K E (pre ++ c :: l) (f + 1) (slen (pre ++ c :: l)) (pre.length : Int) out = f108a k (esc c) out (fun y => L111al0 k K E (pre ++ c :: l) f (slen (pre ++ c :: l)) ((pre ++ [c]).length : Int) y) E := by
  have hl : (pre ++ c :: l).length = pre.length + (l.length + 1) := by simp
  have w := wadd_pre pre c (by omega)
  have s := ssub_pre pre c l
  have b1 : ile (pre.length : Int) ((pre ++ [c]).length : Int) = true := by simp only [ile, List.length_append, List.length_singleton]; exact decide_eq_true (by omega)
  have b2 : ile ((pre ++ [c]).length : Int) (slen (pre ++ c :: l)) = true := by simp only [ile, slen, hl, List.length_append, List.length_singleton]; exact decide_eq_true (by omega)
  simp only [L111al0, T111al0, L111aj10, T111aj10, ilt_pre', ile_pre, sat_pre, cond_true, w, s, b1, b2, (wrem16 c).1, (wrem16 c).2]
  unfold esc
  cases ieq (c.toNat : Int) 34
  · cases ieq (c.toNat : Int) 92
    · cases ieq (c.toNat : Int) 8
      · cases ieq (c.toNat : Int) 12
        · cases ieq (c.toNat : Int) 10
          · cases ieq (c.toNat : Int) 13
            · cases ieq (c.toNat : Int) 9
              · cases ilt (c.toNat : Int) 32 <;> rfl
              · rfl
            · rfl
          · rfl
        · rfl
      · rfl
    · rfl
  · rfl
theorem text_run (k : Nat) : ∀ (l : LB) (f : Nat) (pre o : LB), l.length < f → (pre ++ l).length ≤ 1000000000000 → o.length ≤ 65536 →
    Adds (fun α K E => L111al0 k K E (pre ++ l) f (slen (pre ++ l)) (pre.length : Int) (byteRows o)) o (quoteTail l) := by
  intro l
  induction l with
  | nil =>
    intro f pre o hf hb ho
    obtain ⟨f, rfl⟩ : ∃ g, f = g + 1 := ⟨f - 1, by omega⟩
    refine (adds108 k [34] o ho (by simp)).congr fun α K E => ?_
    have : ilt (pre.length : Int) (slen (pre ++ [])) = false := ilt_end' pre
    simp only [L111al0, T111al0, this, cond_false]
  | cons c l ih =>
    intro f pre o hf hb ho
    obtain ⟨f, rfl⟩ : ∃ g, f = g + 1 := ⟨f - 1, by omega⟩
    have e : quoteTail (c :: l) = esc c ++ quoteTail l := by simp [quoteTail]
    rw [e]
    refine ((adds108 k (esc c) o ho (by have := esc_len c; omega)).seq (G := fun α y K E => L111al0 k K E (pre ++ c :: l) f (slen (pre ++ c :: l)) ((pre ++ [c]).length : Int) y) fun h => ?_).congr fun α K E => ?_
    · rw [app_snoc pre c l]
      exact ih f (pre ++ [c]) (o ++ esc c) (by simpa using hf) (by rw [← app_snoc]; exact hb) h
    · exact text_step k f pre c l (by omega) _ K E
theorem adds111 (k : Nat) (x o : LB) (hv : validP x = true) (hk : x.length + 10 ≤ k) (hb : x.length ≤ 1000000000000) (ho : o.length ≤ 65536) : Adds (fun α K E => f111a k x (byteRows o) K E) o (quoteP x) := by
  have e : quoteP x = [34] ++ quoteTail x := rfl
  rw [e]
  refine ((adds108 k [34] o ho (by simp)).seq (G := fun α y K E => L111al0 k K E x k (slen x) 0 y) fun h => ?_).congr fun α K E => ?_
  · have := text_run k x k [] (o ++ [34]) (by omega) (by simpa using hb) h
    simpa using this
  · unfold f111a T111a
    rw [f98 k x (by omega) (by omega), hv]
    simp only [Bool.not_true, cond_false, L111aj0, T111aj0]
end Go.AI

/-
  PLAIN LAWS: JSON values as they are printed.
-/
set_option maxRecDepth 100000
set_option linter.unusedVariables false
set_option linter.unusedSimpArgs false
namespace Go.AI
open Go.Proofs

mutual
noncomputable def render : J → LB
  | .null => [110, 117, 108, 108]
  | .bool b => Lib.formatBool b
  | .int n => Lib.itoa n
  | .text s => quoteP s
  | .list l => [91] ++ (items true l ++ [93])
  | .obj ks l => [123] ++ (members true ks l ++ [125])
noncomputable def items : Bool → List J → LB
  | _, [] => []
  | first, j :: l => (bif first then [] else [44]) ++ (render j ++ items false l)
noncomputable def members : Bool → List LB → List J → LB
  | _, _, [] => []
  | first, ks, j :: l => (bif first then [] else [44]) ++ ((quoteP (lget ks 0 []) ++ [58]) ++ (render j ++ members false (ldrop 1 ks) l))
end
def goodS (k : Nat) (s : LB) : Prop := validP s = true ∧ s.length + 10 ≤ k ∧ s.length ≤ 1000000000000
mutual
def good (k : Nat) : Nat → J → Prop
  | _, .null => True
  | _, .bool _ => True
  | _, .int n => intOK n = true
  | _, .text s => goodS k s
  | d, .list l => 1 ≤ d ∧ l.length < k ∧ goodL k (d - 1) l
  | d, .obj ks l => 1 ≤ d ∧ ks.length = l.length ∧ l.length < k ∧ ks.Nodup ∧ (∀ x ∈ ks, goodS k x) ∧ goodL k (d - 1) l
def goodL (k : Nat) : Nat → List J → Prop
  | _, [] => True
  | d, j :: l => good k d j ∧ goodL k d l
end
theorem goodL_mem {k d : Nat} : ∀ {l : List J}, goodL k d l → ∀ j ∈ l, good k d j
  | [], _, j, hj => by simp at hj
  | a :: l, h, j, hj => by
    unfold goodL at h
    rcases List.mem_cons.1 hj with rfl | hj
    · exact h.1
    · exact goodL_mem h.2 j hj

/-! ### the keys -/
def keyPair (x : LB) : AV × AV := (.s x, .b true)
theorem mapHas_no (x : LB) : ∀ (l : List LB), x ∉ l → mapHas (l.map keyPair) (.s x) = false
  | [], _ => rfl
  | a :: l, h => by
    have h1 : (a == x) = false := by simp only [beq_eq_false_iff_ne]; intro e; exact h (by simp [e])
    simp only [List.map_cons, keyPair, mapHas, keyEq, h1, Bool.false_or]
    exact mapHas_no x l (fun e => h (by simp [e]))
theorem mapSet_no (x : LB) : ∀ (l : List LB), x ∉ l → mapSet (l.map keyPair) (.s x) (.b true) = (l ++ [x]).map keyPair
  | [], _ => rfl
  | a :: l, h => by
    have h1 : (a == x) = false := by simp only [beq_eq_false_iff_ne]; intro e; exact h (by simp [e])
    simp only [List.map_cons, keyPair, mapSet, keyEq, h1, cond_false, List.cons_append]
    rw [mapSet_no x l (fun e => h (by simp [e]))]
theorem keyRow_get (pre : List LB) (x : LB) (l : List LB) : toS (lget (rget ((pre ++ x :: l).map keyRow) (pre.length : Int)) 0 .unk) = x := by
  have : (pre ++ x :: l).map keyRow = pre.map keyRow ++ keyRow x :: l.map keyRow := by simp
  rw [this, show (pre.length : Int) = ((pre.map keyRow).length : Int) by simp, rget_pre]
  rfl
theorem keys_run {α : Type} (k : Nat) (x0 : List AV) (K : Option α) (E : Int → Option α) : ∀ (l : List LB) (f : Nat) (pre : List LB), toR (lget (ldrop 5 x0) 0 .unk) = (pre ++ l).map keyRow → l.length < f → (pre ++ l).length ≤ 1000000000000 → (pre ++ l).Nodup → (∀ x ∈ l, goodS k x) →
    L153bl0 k K E x0 f (pre.length : Int) (pre.map keyPair) = K := by
  intro l
  induction l with
  | nil =>
    intro f pre hx hf hb hn hg
    obtain ⟨f, rfl⟩ : ∃ g, f = g + 1 := ⟨f - 1, by omega⟩
    have : ilt (pre.length : Int) (rlen ((pre ++ []).map keyRow)) = false := by simp [ilt, rlen]
    simp only [L153bl0, T153bl0, hx, this, cond_false]
  | cons x l ih =>
    intro f pre hx hf hb hn hg
    obtain ⟨f, rfl⟩ : ∃ g, f = g + 1 := ⟨f - 1, by omega⟩
    have hl : (pre ++ x :: l).length = pre.length + (l.length + 1) := by simp
    have e1 : ilt (pre.length : Int) (rlen ((pre ++ x :: l).map keyRow)) = true := by simp [ilt, rlen]; omega
    have hni : x ∉ pre := fun h => by
      have := List.nodup_append.1 hn
      exact this.2.2 x h x (by simp) rfl
    have e0 : h153b_0 (pre.length : Int) (pre.map keyPair) x0 = mapHas (pre.map keyPair) (.s (toS (lget (rget (toR (lget (ldrop 5 x0) 0 .unk)) (pre.length : Int)) 0 .unk))) := rfl
    have e2 : toB (lget (h153b_1 (pre.length : Int) (pre.map keyPair) x0) 0 .unk) = false := by
      unfold h153b_1
      rw [e0, hx, keyRow_get, mapHas_no x pre hni]
      rfl
    obtain ⟨g1, g2, g3⟩ := hg x (by simp)
    simp only [L153bl0, T153bl0, e2]
    rw [hx, keyRow_get, f98 k x (by omega) (by omega), g1]
    simp only [e1, ile_pre, cond_true, cond_false, Bool.not_true, wadd_pre pre x (by omega)]
    have := ih f (pre ++ [x]) (by rw [hx]; simp) (by simpa using hf) (by rw [← app_snoc]; exact hb) (by rw [← app_snoc]; exact hn) (fun y hy => hg y (by simp [hy]))
    rw [← mapSet_no x pre hni] at this
    exact this
theorem keys_ok {α : Type} (k : Nat) (ks : List LB) (l : List J) (hl : ks.length = l.length) (hk : l.length < k) (hb : l.length ≤ 1000000000000) (hn : ks.Nodup) (hg : ∀ x ∈ ks, goodS k x) (K : Option α) (E : Int → Option α) : f153b k (row (.obj ks l)) K E = K := by
  have e1 : toR (lget (ldrop 5 (row (.obj ks l))) 0 .unk) = ks.map keyRow := by simp only [row, ldrop, lget, toR]
  have e2 : toR (lget (ldrop 4 (row (.obj ks l))) 0 .unk) = rowsJ l := by simp only [row, ldrop, lget, toR]
  have e3 : ine (rlen (ks.map keyRow)) (rlen (rowsJ l)) = false := by simp [ine, rlen, rowsJ_len, hl]
  unfold f153b T153b
  rw [e1, e2, e3]
  simp only [cond_false, L153bj0, T153bj0]
  exact keys_run k _ K E ks k [] (by rw [e1]; rfl) (by omega) (by simp; omega) (by simpa using hn) hg

/-! ### values -/
/-- what a recursive printer is -/
abbrev Pr := (α : Type) → List AV → Int → LR → (LR → Option α) → (Int → LR → Option α) → Option α
def okPr (q : Pr) (x1 : Int) (j : J) : Prop := ∀ o : LB, o.length ≤ 65536 → Adds (fun α K E => q α (row j) x1 (byteRows o) K E) o (render j)
theorem sep_adds (k : Nat) (first : Bool) (o : LB) (ho : o.length ≤ 65536) {G : (α : Type) → LR → (LR → Option α) → (Int → LR → Option α) → Option α} {u : LB}
    (hG : ∀ o' : LB, o' = o ++ (bif first then [] else [44]) → o'.length ≤ 65536 → Adds (fun α K E => G α (byteRows o') K E) o' u) :
    Adds (fun α K E => bif first then G α (byteRows o) K E else f108a k [44] (byteRows o) (fun y => G α y K E) E) o ((bif first then [] else [44]) ++ u) := by
  cases first
  · exact (adds108 k [44] o ho (by simp)).seq (G := G) fun h => hG _ rfl h
  · have := hG o (by simp) ho
    simpa using this
theorem rowsJ_get (pre : List J) (j : J) (l : List J) : rget (rowsJ (pre ++ j :: l)) (pre.length : Int) = row j := by
  rw [rowsJ_app, show rowsJ (j :: l) = row j :: rowsJ l by simp [rowsJ], show (pre.length : Int) = ((rowsJ pre).length : Int) by rw [rowsJ_len]]
  exact rget_pre _ _ _
theorem rowsJ_lt (pre : List J) (j : J) (l : List J) : ilt (pre.length : Int) (rlen (rowsJ (pre ++ j :: l))) = true := by
  simp [ilt, rlen, rowsJ_len]; omega
theorem first_igt {β : Type} (pre : List β) : igt (pre.length : Int) 0 = !(pre.isEmpty) := by
  cases pre <;> simp [igt]
theorem list_run (k : Nat) (q : Pr) (x1 : Int) (x0 : List AV) (L : List J) (h4 : toI (lget (ldrop 0 x0) 0 .unk) = 4) (hL : toR (lget (ldrop 4 x0) 0 .unk) = rowsJ L) :
    ∀ (l : List J) (f : Nat) (pre : List J) (o : LB), L = pre ++ l → l.length < f → L.length ≤ 1000000000000 → (∀ j ∈ l, okPr q x1 j) → o.length ≤ 65536 →
      Adds (fun α K E => L112cl0b k (q α) K E [93] x0 x1 f (L.length : Int) (pre.length : Int) (byteRows o)) o (items pre.isEmpty l ++ [93]) := by
  intro l
  induction l with
  | nil =>
    intro f pre o hp hf hb hq ho
    obtain ⟨f, rfl⟩ : ∃ g, f = g + 1 := ⟨f - 1, by omega⟩
    have e : ilt (pre.length : Int) (L.length : Int) = false := by rw [hp]; simp [ilt]
    refine (adds108 k [93] o ho (by simp)).congr fun α K E => ?_
    simp only [L112cl0b, T112cl0b, e, cond_false]
  | cons j l ih =>
    intro f pre o hp hf hb hq ho
    obtain ⟨f, rfl⟩ : ∃ g, f = g + 1 := ⟨f - 1, by omega⟩
    have hl : L.length = pre.length + (l.length + 1) := by rw [hp]; simp
    have e : ilt (pre.length : Int) (L.length : Int) = true := by simp [ilt]; omega
    have e2 : ieq (4 : Int) 5 = false := rfl
    have e3 : ilt (pre.length : Int) (rlen (rowsJ L)) = true := by rw [hp]; exact rowsJ_lt pre j l
    have e4 : rget (rowsJ L) (pre.length : Int) = row j := by rw [hp]; exact rowsJ_get pre j l
    have ei : items pre.isEmpty (j :: l) ++ [93] = (bif pre.isEmpty then [] else [44]) ++ (render j ++ (items false l ++ [93])) := by simp [items]
    rw [ei]
    refine (sep_adds k pre.isEmpty o ho (G := fun α y K E => q α (row j) x1 y (fun y4 => L112cl0b k (q α) K E [93] x0 x1 f (L.length : Int) ((pre ++ [j]).length : Int) y4) E) fun o' he ho' => ?_).congr fun α K E => ?_
    · refine (hq j (by simp) o' ho').seq (G := fun α y K E => L112cl0b k (q α) K E [93] x0 x1 f (L.length : Int) ((pre ++ [j]).length : Int) y) fun h => ?_
      have := ih f (pre ++ [j]) (o' ++ render j) (by rw [hp, app_snoc]) (by simpa using hf) hb (fun y hy => hq y (by simp [hy])) h
      rw [show (pre ++ [j]).isEmpty = false by cases pre <;> rfl] at this
      simpa using this
    · simp only [L112cl0b, T112cl0b, e, cond_true, first_igt, L112cj13b, T112cj13b, h4, e2, cond_false, L112cj15b, T112cj15b, ile_pre, hL, e3, e4, wadd_pre pre j (by omega)]
      cases pre.isEmpty <;> rfl
theorem obj_runP (k : Nat) (q : Pr) (x1 : Int) (x0 : List AV) (L : List J) (KS : List LB) (h5 : toI (lget (ldrop 0 x0) 0 .unk) = 5) (hL : toR (lget (ldrop 4 x0) 0 .unk) = rowsJ L) (hK : toR (lget (ldrop 5 x0) 0 .unk) = KS.map keyRow) (hlen : KS.length = L.length) (hg : ∀ x ∈ KS, goodS k x) :
    ∀ (l : List J) (ks : List LB) (f : Nat) (pre : List J) (kp : List LB) (o : LB), L = pre ++ l → KS = kp ++ ks → kp.length = pre.length → l.length < f → L.length ≤ 1000000000000 → (∀ j ∈ l, okPr q x1 j) → o.length ≤ 65536 →
      Adds (fun α K E => L112cl0b k (q α) K E [125] x0 x1 f (L.length : Int) (pre.length : Int) (byteRows o)) o (members pre.isEmpty ks l ++ [125]) := by
  intro l
  induction l with
  | nil =>
    intro ks f pre kp o hp hkp hkl hf hb hq ho
    obtain ⟨f, rfl⟩ : ∃ g, f = g + 1 := ⟨f - 1, by omega⟩
    have e : ilt (pre.length : Int) (L.length : Int) = false := by rw [hp]; simp [ilt]
    refine (adds108 k [125] o ho (by simp)).congr fun α K E => ?_
    simp only [L112cl0b, T112cl0b, e, cond_false]
  | cons j l ih =>
    intro ks f pre kp o hp hkp hkl hf hb hq ho
    obtain ⟨f, rfl⟩ : ∃ g, f = g + 1 := ⟨f - 1, by omega⟩
    have hl : L.length = pre.length + (l.length + 1) := by rw [hp]; simp
    cases ks with
    | nil => rw [hkp] at hlen; simp at hlen; omega
    | cons x ks =>
      have e : ilt (pre.length : Int) (L.length : Int) = true := by simp [ilt]; omega
      have e2 : ieq (5 : Int) 5 = true := rfl
      have e3 : ilt (pre.length : Int) (rlen (rowsJ L)) = true := by rw [hp]; exact rowsJ_lt pre j l
      have e4 : rget (rowsJ L) (pre.length : Int) = row j := by rw [hp]; exact rowsJ_get pre j l
      have e5 : ilt (pre.length : Int) (rlen (KS.map keyRow)) = true := by simp [ilt, rlen]; omega
      have e6 : toS (lget (rget (KS.map keyRow) (pre.length : Int)) 0 .unk) = x := by rw [hkp, ← hkl]; exact keyRow_get kp x ks
      obtain ⟨g1, g2, g3⟩ := hg x (by rw [hkp]; simp)
      have ei : members pre.isEmpty (x :: ks) (j :: l) ++ [125] = (bif pre.isEmpty then [] else [44]) ++ (quoteP x ++ ([58] ++ (render j ++ (members false ks l ++ [125])))) := by simp [members, lget, ldrop]
      rw [ei]
      refine (sep_adds k pre.isEmpty o ho (G := fun α y K E => f111a k x y (fun y2 => f108a k [58] y2 (fun y3 => q α (row j) x1 y3 (fun y4 => L112cl0b k (q α) K E [125] x0 x1 f (L.length : Int) ((pre ++ [j]).length : Int) y4) E) E) E) fun o' he ho' => ?_).congr fun α K E => ?_
      · refine (adds111 k x o' g1 g2 g3 ho').seq (G := fun α y2 K E => f108a k [58] y2 (fun y3 => q α (row j) x1 y3 (fun y4 => L112cl0b k (q α) K E [125] x0 x1 f (L.length : Int) ((pre ++ [j]).length : Int) y4) E) E) fun h => ?_
        refine (adds108 k [58] _ h (by simp)).seq (G := fun α y3 K E => q α (row j) x1 y3 (fun y4 => L112cl0b k (q α) K E [125] x0 x1 f (L.length : Int) ((pre ++ [j]).length : Int) y4) E) fun h => ?_
        refine (hq j (by simp) _ h).seq (G := fun α y4 K E => L112cl0b k (q α) K E [125] x0 x1 f (L.length : Int) ((pre ++ [j]).length : Int) y4) fun h => ?_
        have := ih ks f (pre ++ [j]) (kp ++ [x]) _ (by rw [hp, app_snoc]) (by rw [hkp, app_snoc]) (by simp [hkl]) (by simpa using hf) hb (fun y hy => hq y (by simp [hy])) h
        rw [show (pre ++ [j]).isEmpty = false by cases pre <;> rfl] at this
        simpa using this
      · simp only [L112cl0b, T112cl0b, e, cond_true, first_igt, L112cj13b, T112cj13b, h5, e2, L112cj15b, T112cj15b, ile_pre, hL, hK, e3, e4, e5, e6, wadd_pre pre j (by omega)]
        cases pre.isEmpty <;> rfl
theorem adds112 (k : Nat) (q : Pr) (x1 : Int) (h16 : x1 ≤ 16) (d : Nat) (j : J) (hj : (∃ l, j = .list l) ∨ ∃ ks l, j = .obj ks l) (hk2 : k ≤ 1000000000000) (hg : good k (d + 1) j) (hq : ∀ c : J, good k d c → okPr q x1 c) (o : LB) (ho : o.length ≤ 65536) :
    Adds (fun α K E => f112c k (q α) (row j) x1 (byteRows o) K E) o (render j) := by
  have e16 : igt x1 16 = false := by simp only [igt]; exact decide_eq_false (by omega)
  rcases hj with ⟨l, rfl⟩ | ⟨ks, l, rfl⟩
  · have h4 : toI (lget (ldrop 0 (row (.list l))) 0 .unk) = 4 := by simp only [row, ldrop, lget, toI]
    have hL : toR (lget (ldrop 4 (row (.list l))) 0 .unk) = rowsJ l := by simp only [row, ldrop, lget, toR]
    unfold good at hg
    obtain ⟨_, g2, g3⟩ := hg
    have e2 : ieq (4 : Int) 5 = false := rfl
    have er : render (.list l) = [91] ++ (items true l ++ [93]) := by simp [render]
    rw [er]
    refine ((adds108 k [91] o ho (by simp)).seq (G := fun α y K E => L112cl0b k (q α) K E [93] (row (.list l)) x1 k (l.length : Int) 0 y) fun h => ?_).congr fun α K E => ?_
    · have := list_run k q x1 (row (.list l)) l h4 hL l k [] (o ++ [91]) rfl g2 (by omega) (fun j hj => hq j (goodL_mem g3 j hj)) h
      simpa using this
    · simp only [f112c, T112c, e16, cond_false, L112cj0, T112cj0, h4, e2, L112cj3, T112cj3, hL, rlen, rowsJ_len]
  · have h5 : toI (lget (ldrop 0 (row (.obj ks l))) 0 .unk) = 5 := by simp only [row, ldrop, lget, toI]
    have hL : toR (lget (ldrop 4 (row (.obj ks l))) 0 .unk) = rowsJ l := by simp only [row, ldrop, lget, toR]
    have hK : toR (lget (ldrop 5 (row (.obj ks l))) 0 .unk) = ks.map keyRow := by simp only [row, ldrop, lget, toR]
    unfold good at hg
    obtain ⟨_, g1, g2, g3, g4, g5⟩ := hg
    have e2 : ieq (5 : Int) 5 = true := rfl
    have er : render (.obj ks l) = [123] ++ (members true ks l ++ [125]) := by simp [render]
    rw [er]
    refine ((adds108 k [123] o ho (by simp)).seq (G := fun α y K E => L112cl0b k (q α) K E [125] (row (.obj ks l)) x1 k (l.length : Int) 0 y) fun h => ?_).congr fun α K E => ?_
    · have := obj_runP k q x1 (row (.obj ks l)) l ks h5 hL hK g1 g4 l ks k [] [] (o ++ [123]) rfl rfl rfl g2 (by omega) (fun j hj => hq j (goodL_mem g5 j hj)) h
      simpa using this
    · simp only [f112c, T112c, e16, cond_false, L112cj0, T112cj0, h5, e2, cond_true, L112cj3, T112cj3, hL, rlen, rowsJ_len]
      exact keys_ok k ks l g1 g2 (by omega) g3 g4 _ _
theorem itoa_len (n : Int) (h : intOK n = true) : (Lib.itoa n).length ≤ 21 := by
  have key : ∀ u : Nat, u < 18446744073709551616 → (Lib.decDigits u).length ≤ 20 := fun u hu => by
    rw [Lib.decDigits_length]
    by_cases h0 : u = 0
    · subst h0; rw [Lib.nDigits_small (by omega)]; omega
    · have := Lib.numDigits_eq u (by omega) hu
      split at this <;> omega
  simp only [intOK, Bool.and_eq_true, decide_eq_true_eq] at h
  unfold Lib.itoa
  split
  · have := key n.natAbs (by omega)
    simp; omega
  · have := key n.toNat (by omega)
    omega
/-- a value, printed at depth x1 -/
theorem pr68 (k : Nat) (hk2 : k ≤ 1000000000000) : ∀ (d : Nat) (n : Nat), d < n → ∀ (j : J), good k d j → ∀ (x1 : Int), 0 ≤ x1 → x1 + d ≤ 16 → okPr (fun α => fr68b k n) x1 j := by
  intro d
  induction d with
  | zero =>
    intro n hn j hj x1 h0 h1 o ho
    obtain ⟨n, rfl⟩ : ∃ g, n = g + 1 := ⟨n - 1, by omega⟩
    cases j with
    | null => exact (adds108 k [110, 117, 108, 108] o ho (by simp)).congr fun α K E => rfl
    | bool b => exact (adds108 k (Lib.formatBool b) o ho (by cases b <;> decide)).congr fun α K E => rfl
    | int z =>
      unfold good at hj
      have e : ∀ (α : Type) (K : LR → Option α) (E : Int → LR → Option α), f110a k z (fun y0 => f108a k y0 (byteRows o) (fun y1 => K y1) (fun y2 y3 => E y2 y3)) = f108a k (Lib.itoa z) (byteRows o) K E := fun α K E => by
        unfold f110a; rw [hj]; rfl
      exact (adds108 k (Lib.itoa z) o ho (by have := itoa_len z hj; omega)).congr fun α K E => e α K E
    | text s =>
      unfold good at hj
      exact (adds111 k s o hj.1 hj.2.1 hj.2.2 ho).congr fun α K E => rfl
    | list l => simp [good] at hj
    | obj ks l => simp [good] at hj
  | succ d ih =>
    intro n hn j hj x1 h0 h1 o ho
    obtain ⟨n, rfl⟩ : ∃ g, n = g + 1 := ⟨n - 1, by omega⟩
    have hw : wadd .i64 x1 1 = x1 + 1 := wadd_in (by omega) (by omega)
    have rec' := adds112 k (fun α => fr68b k n) (x1 + 1) (by omega) d j
    cases j with
    | null => exact (adds108 k [110, 117, 108, 108] o ho (by simp)).congr fun α K E => rfl
    | bool b => exact (adds108 k (Lib.formatBool b) o ho (by cases b <;> decide)).congr fun α K E => rfl
    | int z =>
      unfold good at hj
      have e : ∀ (α : Type) (K : LR → Option α) (E : Int → LR → Option α), f110a k z (fun y0 => f108a k y0 (byteRows o) (fun y1 => K y1) (fun y2 y3 => E y2 y3)) = f108a k (Lib.itoa z) (byteRows o) K E := fun α K E => by
        unfold f110a; rw [hj]; rfl
      exact (adds108 k (Lib.itoa z) o ho (by have := itoa_len z hj; omega)).congr fun α K E => e α K E
    | text s =>
      unfold good at hj
      exact (adds111 k s o hj.1 hj.2.1 hj.2.2 ho).congr fun α K E => rfl
    | list l =>
      refine (rec' (.inl ⟨l, rfl⟩) hk2 hj (fun c hc => ih n (by omega) c hc (x1 + 1) (by omega) (by omega)) o ho).congr fun α K E => ?_
      show f112c k (fr68b k n) (row (.list l)) (wadd .i64 x1 1) (byteRows o) _ _ = _
      rw [hw]
    | obj ks l =>
      refine (rec' (.inr ⟨ks, l, rfl⟩) hk2 hj (fun c hc => ih n (by omega) c hc (x1 + 1) (by omega) (by omega)) o ho).congr fun α K E => ?_
      show f112c k (fr68b k n) (row (.obj ks l)) (wadd .i64 x1 1) (byteRows o) _ _ = _
      rw [hw]
end Go.AI
