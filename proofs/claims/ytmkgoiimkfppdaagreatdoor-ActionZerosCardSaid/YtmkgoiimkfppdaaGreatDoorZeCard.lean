/- ActionZeros of boathouse/action: for every 'which' and 'field' the law's function returns true and leaves its arguments alone; no condition. The machine side: an abstract interpreter of the model's code, proved sound once, and the functions that it comes to, printed and checked; then 42 cases, each reckoned by the kernel. -/
import Derived.Test.YtmkgoiimkfppdaaGreatDoorCards
import Derived.Test.YtmkgoiimkfppdaaGreatDoorTie
import Derived.WalkKit
import Derived.ProofKit
import Derived.OpenShut
import Derived.LaidMore
import Derived.Lay
import Derived.LaidSub
import Derived.Deep.DeepHandedRow
import Derived.Lib.LaidTab
import Derived.Test.YtmkgoiimkfppdaaGreatDoorZeF
set_option linter.unusedVariables false
set_option linter.unusedSimpArgs false
set_option maxRecDepth 100000
namespace Go.AI
open Go.Proofs
noncomputable def h13a_0 (s0_3 : LR) (y10 : Int) (y11 : LR) (y12 : LR) (y13 : LB) (y14 : LB) (y15 : LB) (y16 : Int) (y17 : Int) (y18 : LR) (y19 : Int) (y20 : Int) (y21 : LR) (y22 : LB) (y23 : Int) (y24 : Int) (y25 : Int) (y26 : Int) (y7 : Int) (y8 : LB) (y9 : Int) : LR :=
  (radd s0_3 (((ai y7) :: ((AV.s y8) :: ((ai y9) :: ((ai y10) :: ((AV.lst 61 y11 vw) :: ((AV.lst 63 y12 vw) :: ((AV.s y13) :: ((AV.s y14) :: ((AV.s y15) :: ((ai y16) :: ((ai y17) :: ((AV.lst 97 y18 vw) :: ((ai y19) :: ((ai y20) :: ((AV.lst 59 y21 vw) :: ((AV.s y22) :: ((ai y23) :: ((ai y24) :: ((ai y25) :: ((ai y26) :: [])))))))))))))))))))) :: []))
noncomputable def T13al0 {α : Type} (c46a : Int → Bool → Int → LB → LR → LR → Bool → (Int → LB → Int → Int → LR → LR → LB → LB → LB → Int → Int → LR → Int → Int → LR → LB → Int → Int → Int → Int → Bool → Option α) → Option α) (c11a : LR → (LB → Int → Option α) → Option α) (r0 : LR → Int → Bool → Option α) (K : (LR → Int → Option α)) (x0 : LB) (y0 : Int) (y1 : Bool) (y2 : Int) (y3 : LB) (y4 : LR) (y5 : LR) (s0_3 : LR) (s0_6 : Int) (s0_13 : Bool) : Option α :=
  (bif (ilt s0_6 (rlen y4)) then (bif (ile (0 : Int) s0_6) then (bif (ilt s0_6 (rlen y4)) then (c46a (toI (lget (rget y4 s0_6) 0 uk)) (toB (lget (rget y4 s0_6) 1 uk)) (toI (lget (rget y4 s0_6) 2 uk)) (toS (lget (rget y4 s0_6) 3 uk)) (toR (lget (rget y4 s0_6) 4 uk)) (toR (lget (rget y4 s0_6) 5 uk)) s0_13 (fun y7 y8 y9 y10 y11 y12 y13 y14 y15 y16 y17 y18 y19 y20 y21 y22 y23 y24 y25 y26 y27 => (bif (room ((List.length s0_3) + 1) 264) then (r0 (h13a_0 s0_3 y10 y11 y12 y13 y14 y15 y16 y17 y18 y19 y20 y21 y22 y23 y24 y25 y26 y7 y8 y9) (wadd i6 s0_6 (1 : Int)) y27) else none))) else none) else none) else (c11a s0_3 (fun y7 y8 => (bif s0_13 then (K [] (1900 : Int)) else (bif (ine y8 (0 : Int)) then (K [] (1900 : Int)) else (bif (Bool.not (seq y7 x0)) then (K [] (1900 : Int)) else (K s0_3 (0 : Int))))))))
noncomputable def T13a {α : Type} (c45a : LB → (Int → Bool → Int → LB → LR → LR → Int → Option α) → Option α) (l0 : LB → Int → Bool → Int → LB → LR → LR → LR → Int → Bool → Option α) (K : (LR → Int → Option α)) (x0 : LB) : Option α :=
  (c45a x0 (fun y0 y1 y2 y3 y4 y5 y6 => (bif (ine y6 (0 : Int)) then (K [] (1900 : Int)) else (bif (ine y0 (4 : Int)) then (K [] (1900 : Int)) else (l0 x0 y0 y1 y2 y3 y4 y5 [] (0 : Int) false)))))
noncomputable def L13al0 {α : Type} (k : Nat) (K : (LR → Int → Option α)) (x0 : LB) (y0 : Int) (y1 : Bool) (y2 : Int) (y3 : LB) (y4 : LR) (y5 : LR) : Nat → LR → Int → Bool → Option α
  | 0, _, _, _ => none
  | n + 1, s0_3, s0_6, s0_13 => T13al0 (f46a k) (f11a k) (fun s0_3 s0_6 s0_13 => L13al0 k K x0 y0 y1 y2 y3 y4 y5 n s0_3 s0_6 s0_13) K x0 y0 y1 y2 y3 y4 y5 s0_3 s0_6 s0_13
noncomputable def f13a {α : Type} (k : Nat) (x0 : LB) (K : (LR → Int → Option α)) : Option α := T13a (f45a k) (fun x0 y0 y1 y2 y3 y4 y5 s0_3 s0_6 s0_13 => (L13al0 k K x0 y0 y1 y2 y3 y4 y5 k) s0_3 s0_6 s0_13) K x0
noncomputable def W13a (F : LB → (LR → Int → OR) → OR) : Spec := mkSpec [(.c .s)] [] fun h h' K => F (hS (lget h 0 .no)) (fun y0 y1 => K (.ok (AV.tup [(AV.lst 38 y0 vw), (ai y1)]) []))
noncomputable def R13al0 (ρ : FuncId → Fn) (jp : JP) (k : Nat) (K : Res → OR) (x0 : LB) (y0 : Int) (y1 : Bool) (y2 : Int) (y3 : LB) (y4 : LR) (y5 : LR) (n : Nat) (s0_3 : LR) (s0_6 : Int) (s0_13 : Bool) : OR :=
  atLoop Tryz.prog Gl ρ (loopN k) jp Tryz.f13 0 K [1, 1, 1, 1, 1, 0, 1, 0] [] n 27 [(AV.s x0), uk, (AV.lst 38 [] (Mark.tk (Tok.sl 2) 0)), (ai (0 : Int)), uk, uk, (AV.ptr 20 0), (AV.lst 38 s0_3 (Mark.tk (Tok.sl 7) 0)), uk, uk, uk, uk, uk, uk, uk, uk, uk, uk, uk, uk, uk, uk, uk, uk, uk, uk, uk, (AV.lst 83 y4 vw), (ai (rlen y4)), (ai s0_6), uk, uk, uk, uk, uk, uk, uk, uk, uk, uk, uk, uk, uk, uk, uk, uk, uk, uk, uk, uk, uk, uk, uk, uk, uk, uk, uk, uk, uk] [(Prod.mk 7 (AObj.box [(ai y0), (AV.b y1), (ai y2), (AV.s y3), (AV.lst 83 y4 vw), (AV.lst 9 y5 vw)])), (Prod.mk 20 (AObj.box [(AV.b s0_13)]))] []
theorem step13al0 (c45a : LB → (Int → Bool → Int → LB → LR → LR → Int → OR) → OR) (c46a : Int → Bool → Int → LB → LR → LR → Bool → (Int → LB → Int → Int → LR → LR → LB → LB → LB → Int → Int → LR → Int → Int → LR → LB → Int → Int → Int → Int → Bool → OR) → OR) (c11a : LR → (LB → Int → OR) → OR) (jp : JP) (k : Nat) (K : Res → OR) (x0 : LB) (y0 : Int) (y1 : Bool) (y2 : Int) (y3 : LB) (y4 : LR) (y5 : LR) (n : Nat) (s0_3 : LR) (s0_6 : Int) (s0_13 : Bool) : R13al0 (rhoL [(45, W45a c45a), (46, W46a c46a), (11, W11a c11a)]) jp k K x0 y0 y1 y2 y3 y4 y5 (n + 1) s0_3 s0_6 s0_13 = T13al0 c46a c11a (fun s0_3 s0_6 s0_13 => R13al0 (rhoL [(45, W45a c45a), (46, W46a c46a), (11, W11a c11a)]) jp k K x0 y0 y1 y2 y3 y4 y5 n s0_3 s0_6 s0_13) (fun y0 y1 => K (.ok (AV.tup [(AV.lst 38 y0 vw), (ai y1)]) [])) x0 y0 y1 y2 y3 y4 y5 s0_3 s0_6 s0_13 := by kernel_rfl
theorem loop13al0 (k : Nat) (K : Res → OR) (x0 : LB) (y0 : Int) (y1 : Bool) (y2 : Int) (y3 : LB) (y4 : LR) (y5 : LR) : ∀ (n : Nat) (s0_3 : LR) (s0_6 : Int) (s0_13 : Bool), R13al0 (rhoL [(45, W45a (f45a k)), (46, W46a (f46a k)), (11, W11a (f11a k))]) jpId k K x0 y0 y1 y2 y3 y4 y5 n s0_3 s0_6 s0_13 = L13al0 k (fun y0 y1 => K (.ok (AV.tup [(AV.lst 38 y0 vw), (ai y1)]) [])) x0 y0 y1 y2 y3 y4 y5 n s0_3 s0_6 s0_13 := by
  intro n
  induction n generalizing x0 y0 y1 y2 y3 y4 y5 with
  | zero => intro s0_3 s0_6 s0_13; kernel_rfl
  | succ n ih =>
    intro s0_3 s0_6 s0_13
    rw [step13al0 (f45a k) (f46a k) (f11a k) jpId k K]
    simp only [ih]
    kernel_rfl
theorem run13a (c45a : LB → (Int → Bool → Int → LB → LR → LR → Int → OR) → OR) (c46a : Int → Bool → Int → LB → LR → LR → Bool → (Int → LB → Int → Int → LR → LR → LB → LB → LB → Int → Int → LR → Int → Int → LR → LB → Int → Int → Int → Int → Bool → OR) → OR) (c11a : LR → (LB → Int → OR) → OR) (jp : JP) (k : Nat) (K : Res → OR) (x0 : LB) : runF Tryz.prog Gl (rhoL [(45, W45a c45a), (46, W46a c46a), (11, W11a c11a)]) (loopN k) jp Tryz.f13 [(AV.s x0)] [] K = T13a c45a (fun x0 y0 y1 y2 y3 y4 y5 s0_3 s0_6 s0_13 => R13al0 (rhoL [(45, W45a c45a), (46, W46a c46a), (11, W11a c11a)]) jp k K x0 y0 y1 y2 y3 y4 y5 k s0_3 s0_6 s0_13) (fun y0 y1 => K (.ok (AV.tup [(AV.lst 38 y0 vw), (ai y1)]) [])) x0 := by kernel_rfl
theorem ok13a (k : Nat) : SpecOK Tryz.prog Gl (W13a (f13a k)) 13 :=
  mk_ok' (ρ := (rhoL [(45, W45a (f45a k)), (46, W46a (f46a k)), (11, W11a (f11a k))])) (rhoL_ok (forall_cons (ok45a k) (forall_cons (ok46a k) (forall_cons (ok11a k) forall_nil)))) Tryz_mixed (g := 13) (fn := Tryz.f13) (by kernel_rfl) (by kernel_rfl) k fun h h' K => (run13a (f45a k) (f46a k) (f11a k) jpId k K (hS (lget h 0 .no))).trans (by simp only [loop13al0 k K]; rfl)
noncomputable def T15a {α : Type} (K : (Option α)) (x0 : Int) : Option α :=
  K
noncomputable def f15a {α : Type} (k : Nat) (x0 : Int) (K : (Option α)) : Option α := T15a K x0
noncomputable def W15a (F : Int → (OR) → OR) : Spec := mkSpec [(.c (.i i6))] [] fun h h' K => F (hI (lget h 0 .no)) (K (.ok (ai (hI (lget h 0 .no))) []))
theorem run15a (jp : JP) (k : Nat) (K : Res → OR) (x0 : Int) : runF Tryz.prog Gl (rhoL []) (loopN k) jp Tryz.f15 [(ai x0)] [] K = T15a (K (.ok (ai x0) [])) x0 := by kernel_rfl
theorem ok15a (k : Nat) : SpecOK Tryz.prog Gl (W15a (f15a k)) 15 :=
  mk_ok' (ρ := (rhoL [])) (rhoL_ok forall_nil) Tryz_mixed (g := 15) (fn := Tryz.f15) (by kernel_rfl) (by kernel_rfl) k fun h h' K => (run15a jpId k K (hI (lget h 0 .no))).trans rfl
noncomputable def h141a_1 (s0_3 : Int) (x0 : LR) (x1 : LR) : Bool :=
  (Bool.and (ieq (toI (lget (rget x0 s0_3) 1 uk)) (toI (lget (rget x1 s0_3) 1 uk))) (Bool.and (beqB (toB (lget (rget x0 s0_3) 2 uk)) (toB (lget (rget x1 s0_3) 2 uk))) (Bool.and (seq (toS (lget (rget x0 s0_3) 3 uk)) (toS (lget (rget x1 s0_3) 3 uk))) true)))
noncomputable def T141al0 {α : Type} (r0 : Int → Option α) (K : (Bool → Option α)) (x0 : LR) (x1 : LR) (s0_3 : Int) : Option α :=
  (bif (ilt s0_3 (rlen x0)) then (bif (ile (0 : Int) s0_3) then (bif (ilt s0_3 (rlen x0)) then (bif (ile (0 : Int) s0_3) then (bif (ilt s0_3 (rlen x1)) then (bif (Bool.not (Bool.and (ieq (toI (lget (rget x0 s0_3) 0 uk)) (toI (lget (rget x1 s0_3) 0 uk))) (h141a_1 s0_3 x0 x1))) then (K false) else (r0 (wadd i6 s0_3 (1 : Int)))) else none) else none) else none) else none) else (K true))
noncomputable def T141a {α : Type} (l0 : LR → LR → Int → Option α) (K : (Bool → Option α)) (x0 : LR) (x1 : LR) : Option α :=
  (bif (ine (rlen x0) (rlen x1)) then (K false) else (l0 x0 x1 (0 : Int)))
noncomputable def L141al0 {α : Type} (k : Nat) (K : (Bool → Option α)) (x0 : LR) (x1 : LR) : Nat → Int → Option α
  | 0, _ => none
  | n + 1, s0_3 => T141al0 (fun s0_3 => L141al0 k K x0 x1 n s0_3) K x0 x1 s0_3
noncomputable def f141a {α : Type} (k : Nat) (x0 : LR) (x1 : LR) (K : (Bool → Option α)) : Option α := T141a (fun x0 x1 s0_3 => (L141al0 k K x0 x1 k) s0_3) K x0 x1
noncomputable def W141a (F : LR → LR → (Bool → OR) → OR) : Spec := mkSpec [(.c (.l 61 vw)), (.c (.l 61 vw))] [] fun h h' K => F (hR (lget h 0 .no)) (hR (lget h 1 .no)) (fun y0 => K (.ok (AV.b y0) []))
noncomputable def R141al0 (ρ : FuncId → Fn) (jp : JP) (k : Nat) (K : Res → OR) (x0 : LR) (x1 : LR) (n : Nat) (s0_3 : Int) : OR :=
  atLoop Tryz.prog Gl ρ (loopN k) jp Tryz.f141 0 K [1, 1, 0, 1, 0] [] n 8 [(AV.lst 61 x0 vw), (AV.lst 61 x1 vw), uk, uk, (AV.b false), (ai s0_3), uk, uk, uk, uk, uk, uk, uk, uk, uk, uk, uk, uk, uk, uk, uk, uk, uk, uk, uk, uk] [] []
theorem step141al0 (jp : JP) (k : Nat) (K : Res → OR) (x0 : LR) (x1 : LR) (n : Nat) (s0_3 : Int) : R141al0 (rhoL []) jp k K x0 x1 (n + 1) s0_3 = T141al0 (fun s0_3 => R141al0 (rhoL []) jp k K x0 x1 n s0_3) (fun y0 => K (.ok (AV.b y0) [])) x0 x1 s0_3 := by kernel_rfl
theorem loop141al0 (k : Nat) (K : Res → OR) (x0 : LR) (x1 : LR) : ∀ (n : Nat) (s0_3 : Int), R141al0 (rhoL []) jpId k K x0 x1 n s0_3 = L141al0 k (fun y0 => K (.ok (AV.b y0) [])) x0 x1 n s0_3 := by
  intro n
  induction n generalizing x0 x1 with
  | zero => intro s0_3; kernel_rfl
  | succ n ih =>
    intro s0_3
    rw [step141al0 jpId k K]
    simp only [ih]
    kernel_rfl
theorem run141a (jp : JP) (k : Nat) (K : Res → OR) (x0 : LR) (x1 : LR) : runF Tryz.prog Gl (rhoL []) (loopN k) jp Tryz.f141 [(AV.lst 61 x0 vw), (AV.lst 61 x1 vw)] [] K = T141a (fun x0 x1 s0_3 => R141al0 (rhoL []) jp k K x0 x1 k s0_3) (fun y0 => K (.ok (AV.b y0) [])) x0 x1 := by kernel_rfl
theorem ok141a (k : Nat) : SpecOK Tryz.prog Gl (W141a (f141a k)) 141 :=
  mk_ok' (ρ := (rhoL [])) (rhoL_ok forall_nil) Tryz_mixed (g := 141) (fn := Tryz.f141) (by kernel_rfl) (by kernel_rfl) k fun h h' K => (run141a jpId k K (hR (lget h 0 .no)) (hR (lget h 1 .no))).trans (by simp only [loop141al0 k K]; rfl)
noncomputable def h142a_3 (s0_3 : Int) (x0 : LR) (x1 : LR) : Bool :=
  (Bool.and (ieq (toI (lget (rget x0 s0_3) 3 uk)) (toI (lget (rget x1 s0_3) 3 uk))) (Bool.and (beqB (toB (lget (rget x0 s0_3) 4 uk)) (toB (lget (rget x1 s0_3) 4 uk))) (Bool.and (seq (toS (lget (rget x0 s0_3) 5 uk)) (toS (lget (rget x1 s0_3) 5 uk))) true)))
noncomputable def h142a_4 (s0_3 : Int) (x0 : LR) (x1 : LR) : Bool :=
  (Bool.and (ieq (toI (lget (rget x0 s0_3) 7 uk)) (toI (lget (rget x1 s0_3) 7 uk))) (Bool.and (beqB (toB (lget (rget x0 s0_3) 8 uk)) (toB (lget (rget x1 s0_3) 8 uk))) (Bool.and (seq (toS (lget (rget x0 s0_3) 9 uk)) (toS (lget (rget x1 s0_3) 9 uk))) true)))
noncomputable def h142a_5 (s0_3 : Int) (x0 : LR) (x1 : LR) : Bool :=
  (Bool.and (Bool.and (ieq (toI (lget (rget x0 s0_3) 2 uk)) (toI (lget (rget x1 s0_3) 2 uk))) (h142a_3 s0_3 x0 x1)) (Bool.and (Bool.and (ieq (toI (lget (rget x0 s0_3) 6 uk)) (toI (lget (rget x1 s0_3) 6 uk))) (h142a_4 s0_3 x0 x1)) true))
noncomputable def T142al0 {α : Type} (r0 : Int → Option α) (K : (Bool → Option α)) (x0 : LR) (x1 : LR) (s0_3 : Int) : Option α :=
  (bif (ilt s0_3 (rlen x0)) then (bif (ile (0 : Int) s0_3) then (bif (ilt s0_3 (rlen x0)) then (bif (ile (0 : Int) s0_3) then (bif (ilt s0_3 (rlen x1)) then (bif (Bool.not (Bool.and (ieq (toI (lget (rget x0 s0_3) 0 uk)) (toI (lget (rget x1 s0_3) 0 uk))) (Bool.and (ieq (toI (lget (rget x0 s0_3) 1 uk)) (toI (lget (rget x1 s0_3) 1 uk))) (h142a_5 s0_3 x0 x1)))) then (K false) else (r0 (wadd i6 s0_3 (1 : Int)))) else none) else none) else none) else none) else (K true))
noncomputable def T142a {α : Type} (l0 : LR → LR → Int → Option α) (K : (Bool → Option α)) (x0 : LR) (x1 : LR) : Option α :=
  (bif (ine (rlen x0) (rlen x1)) then (K false) else (l0 x0 x1 (0 : Int)))
noncomputable def L142al0 {α : Type} (k : Nat) (K : (Bool → Option α)) (x0 : LR) (x1 : LR) : Nat → Int → Option α
  | 0, _ => none
  | n + 1, s0_3 => T142al0 (fun s0_3 => L142al0 k K x0 x1 n s0_3) K x0 x1 s0_3
noncomputable def f142a {α : Type} (k : Nat) (x0 : LR) (x1 : LR) (K : (Bool → Option α)) : Option α := T142a (fun x0 x1 s0_3 => (L142al0 k K x0 x1 k) s0_3) K x0 x1
noncomputable def W142a (F : LR → LR → (Bool → OR) → OR) : Spec := mkSpec [(.c (.l 63 vw)), (.c (.l 63 vw))] [] fun h h' K => F (hR (lget h 0 .no)) (hR (lget h 1 .no)) (fun y0 => K (.ok (AV.b y0) []))
noncomputable def R142al0 (ρ : FuncId → Fn) (jp : JP) (k : Nat) (K : Res → OR) (x0 : LR) (x1 : LR) (n : Nat) (s0_3 : Int) : OR :=
  atLoop Tryz.prog Gl ρ (loopN k) jp Tryz.f142 0 K [1, 1, 0, 1, 0] [] n 8 [(AV.lst 63 x0 vw), (AV.lst 63 x1 vw), uk, uk, (AV.b false), (ai s0_3), uk, uk, uk, uk, uk, uk, uk, uk, uk, uk, uk, uk, uk, uk, uk, uk, uk, uk, uk, uk] [] []
theorem step142al0 (jp : JP) (k : Nat) (K : Res → OR) (x0 : LR) (x1 : LR) (n : Nat) (s0_3 : Int) : R142al0 (rhoL []) jp k K x0 x1 (n + 1) s0_3 = T142al0 (fun s0_3 => R142al0 (rhoL []) jp k K x0 x1 n s0_3) (fun y0 => K (.ok (AV.b y0) [])) x0 x1 s0_3 := by kernel_rfl
theorem loop142al0 (k : Nat) (K : Res → OR) (x0 : LR) (x1 : LR) : ∀ (n : Nat) (s0_3 : Int), R142al0 (rhoL []) jpId k K x0 x1 n s0_3 = L142al0 k (fun y0 => K (.ok (AV.b y0) [])) x0 x1 n s0_3 := by
  intro n
  induction n generalizing x0 x1 with
  | zero => intro s0_3; kernel_rfl
  | succ n ih =>
    intro s0_3
    rw [step142al0 jpId k K]
    simp only [ih]
    kernel_rfl
theorem run142a (jp : JP) (k : Nat) (K : Res → OR) (x0 : LR) (x1 : LR) : runF Tryz.prog Gl (rhoL []) (loopN k) jp Tryz.f142 [(AV.lst 63 x0 vw), (AV.lst 63 x1 vw)] [] K = T142a (fun x0 x1 s0_3 => R142al0 (rhoL []) jp k K x0 x1 k s0_3) (fun y0 => K (.ok (AV.b y0) [])) x0 x1 := by kernel_rfl
theorem ok142a (k : Nat) : SpecOK Tryz.prog Gl (W142a (f142a k)) 142 :=
  mk_ok' (ρ := (rhoL [])) (rhoL_ok forall_nil) Tryz_mixed (g := 142) (fn := Tryz.f142) (by kernel_rfl) (by kernel_rfl) k fun h h' K => (run142a jpId k K (hR (lget h 0 .no)) (hR (lget h 1 .no))).trans (by simp only [loop142al0 k K]; rfl)
noncomputable def T92a {α : Type} (c141a : LR → LR → (Bool → Option α) → Option α) (c142a : LR → LR → (Bool → Option α) → Option α) (K : (Bool → Option α)) (x0 : LB) (x1 : Int) (x2 : Int) (x3 : LR) (x4 : LR) (x5 : LB) (x6 : Int) (x7 : Int) (x8 : LR) (x9 : LR) : Option α :=
  (bif (seq x0 x5) then (bif (ieq x1 x6) then (bif (ieq x2 x7) then (c141a x3 x8 (fun y0 => (bif y0 then (c142a x4 x9 (fun y1 => (K y1))) else (K false)))) else (K false)) else (K false)) else (K false))
noncomputable def f92a {α : Type} (k : Nat) (x0 : LB) (x1 : Int) (x2 : Int) (x3 : LR) (x4 : LR) (x5 : LB) (x6 : Int) (x7 : Int) (x8 : LR) (x9 : LR) (K : (Bool → Option α)) : Option α := T92a (f141a k) (f142a k) K x0 x1 x2 x3 x4 x5 x6 x7 x8 x9
noncomputable def W92a (F : LB → Int → Int → LR → LR → LB → Int → Int → LR → LR → (Bool → OR) → OR) : Spec := mkSpec [(.agg [.s, (.i i6), (.i i6), (.l 61 vw), (.l 63 vw)]), (.agg [.s, (.i i6), (.i i6), (.l 61 vw), (.l 63 vw)])] [] fun h h' K => F (hS (lget h 0 .no)) (hI (lget h 1 .no)) (hI (lget h 2 .no)) (hR (lget h 3 .no)) (hR (lget h 4 .no)) (hS (lget h 5 .no)) (hI (lget h 6 .no)) (hI (lget h 7 .no)) (hR (lget h 8 .no)) (hR (lget h 9 .no)) (fun y0 => K (.ok (AV.b y0) []))
theorem run92a (c141a : LR → LR → (Bool → OR) → OR) (c142a : LR → LR → (Bool → OR) → OR) (jp : JP) (k : Nat) (K : Res → OR) (x0 : LB) (x1 : Int) (x2 : Int) (x3 : LR) (x4 : LR) (x5 : LB) (x6 : Int) (x7 : Int) (x8 : LR) (x9 : LR) : runF Tryz.prog Gl (rhoL [(141, W141a c141a), (142, W142a c142a)]) (loopN k) jp Tryz.f92 [(AV.agg [(AV.s x0), (ai x1), (ai x2), (AV.lst 61 x3 vw), (AV.lst 63 x4 vw)]), (AV.agg [(AV.s x5), (ai x6), (ai x7), (AV.lst 61 x8 vw), (AV.lst 63 x9 vw)])] [] K = T92a c141a c142a (fun y0 => K (.ok (AV.b y0) [])) x0 x1 x2 x3 x4 x5 x6 x7 x8 x9 := by kernel_rfl
theorem ok92a (k : Nat) : SpecOK Tryz.prog Gl (W92a (f92a k)) 92 :=
  mk_ok' (ρ := (rhoL [(141, W141a (f141a k)), (142, W142a (f142a k))])) (rhoL_ok (forall_cons (ok141a k) (forall_cons (ok142a k) forall_nil))) Tryz_mixed (g := 92) (fn := Tryz.f92) (by kernel_rfl) (by kernel_rfl) k fun h h' K => (run92a (f141a k) (f142a k) jpId k K (hS (lget h 0 .no)) (hI (lget h 1 .no)) (hI (lget h 2 .no)) (hR (lget h 3 .no)) (hR (lget h 4 .no)) (hS (lget h 5 .no)) (hI (lget h 6 .no)) (hI (lget h 7 .no)) (hR (lget h 8 .no)) (hR (lget h 9 .no))).trans rfl
noncomputable def h143a_1 (s0_3 : Int) (x0 : LR) (x1 : LR) : Bool :=
  (Bool.and (ieq (toI (lget (rget x0 s0_3) 0 uk)) (toI (lget (rget x1 s0_3) 0 uk))) (Bool.and (seq (toS (lget (rget x0 s0_3) 1 uk)) (toS (lget (rget x1 s0_3) 1 uk))) (Bool.and (ieq (toI (lget (rget x0 s0_3) 2 uk)) (toI (lget (rget x1 s0_3) 2 uk))) true)))
noncomputable def T143al0 {α : Type} (r0 : Int → Option α) (K : (Bool → Option α)) (x0 : LR) (x1 : LR) (s0_3 : Int) : Option α :=
  (bif (ilt s0_3 (rlen x0)) then (bif (ile (0 : Int) s0_3) then (bif (ilt s0_3 (rlen x0)) then (bif (ile (0 : Int) s0_3) then (bif (ilt s0_3 (rlen x1)) then (bif (Bool.not (h143a_1 s0_3 x0 x1)) then (K false) else (r0 (wadd i6 s0_3 (1 : Int)))) else none) else none) else none) else none) else (K true))
noncomputable def T143a {α : Type} (l0 : LR → LR → Int → Option α) (K : (Bool → Option α)) (x0 : LR) (x1 : LR) : Option α :=
  (bif (ine (rlen x0) (rlen x1)) then (K false) else (l0 x0 x1 (0 : Int)))
noncomputable def L143al0 {α : Type} (k : Nat) (K : (Bool → Option α)) (x0 : LR) (x1 : LR) : Nat → Int → Option α
  | 0, _ => none
  | n + 1, s0_3 => T143al0 (fun s0_3 => L143al0 k K x0 x1 n s0_3) K x0 x1 s0_3
noncomputable def f143a {α : Type} (k : Nat) (x0 : LR) (x1 : LR) (K : (Bool → Option α)) : Option α := T143a (fun x0 x1 s0_3 => (L143al0 k K x0 x1 k) s0_3) K x0 x1
noncomputable def W143a (F : LR → LR → (Bool → OR) → OR) : Spec := mkSpec [(.c (.l 97 vw)), (.c (.l 97 vw))] [] fun h h' K => F (hR (lget h 0 .no)) (hR (lget h 1 .no)) (fun y0 => K (.ok (AV.b y0) []))
noncomputable def R143al0 (ρ : FuncId → Fn) (jp : JP) (k : Nat) (K : Res → OR) (x0 : LR) (x1 : LR) (n : Nat) (s0_3 : Int) : OR :=
  atLoop Tryz.prog Gl ρ (loopN k) jp Tryz.f143 0 K [1, 1, 0, 1, 0] [] n 8 [(AV.lst 97 x0 vw), (AV.lst 97 x1 vw), uk, uk, (AV.b false), (ai s0_3), uk, uk, uk, uk, uk, uk, uk, uk, uk, uk, uk, uk, uk, uk, uk, uk, uk, uk, uk, uk] [] []
theorem step143al0 (jp : JP) (k : Nat) (K : Res → OR) (x0 : LR) (x1 : LR) (n : Nat) (s0_3 : Int) : R143al0 (rhoL []) jp k K x0 x1 (n + 1) s0_3 = T143al0 (fun s0_3 => R143al0 (rhoL []) jp k K x0 x1 n s0_3) (fun y0 => K (.ok (AV.b y0) [])) x0 x1 s0_3 := by kernel_rfl
theorem loop143al0 (k : Nat) (K : Res → OR) (x0 : LR) (x1 : LR) : ∀ (n : Nat) (s0_3 : Int), R143al0 (rhoL []) jpId k K x0 x1 n s0_3 = L143al0 k (fun y0 => K (.ok (AV.b y0) [])) x0 x1 n s0_3 := by
  intro n
  induction n generalizing x0 x1 with
  | zero => intro s0_3; kernel_rfl
  | succ n ih =>
    intro s0_3
    rw [step143al0 jpId k K]
    simp only [ih]
    kernel_rfl
theorem run143a (jp : JP) (k : Nat) (K : Res → OR) (x0 : LR) (x1 : LR) : runF Tryz.prog Gl (rhoL []) (loopN k) jp Tryz.f143 [(AV.lst 97 x0 vw), (AV.lst 97 x1 vw)] [] K = T143a (fun x0 x1 s0_3 => R143al0 (rhoL []) jp k K x0 x1 k s0_3) (fun y0 => K (.ok (AV.b y0) [])) x0 x1 := by kernel_rfl
theorem ok143a (k : Nat) : SpecOK Tryz.prog Gl (W143a (f143a k)) 143 :=
  mk_ok' (ρ := (rhoL [])) (rhoL_ok forall_nil) Tryz_mixed (g := 143) (fn := Tryz.f143) (by kernel_rfl) (by kernel_rfl) k fun h h' K => (run143a jpId k K (hR (lget h 0 .no)) (hR (lget h 1 .no))).trans (by simp only [loop143al0 k K]; rfl)
noncomputable def T93a {α : Type} (c143a : LR → LR → (Bool → Option α) → Option α) (K : (Bool → Option α)) (x0 : Int) (x1 : LR) (x2 : Int) (x3 : Int) (x4 : LR) (x5 : Int) : Option α :=
  (bif (ieq x0 x3) then (bif (ieq x2 x5) then (c143a x1 x4 (fun y0 => (K y0))) else (K false)) else (K false))
noncomputable def f93a {α : Type} (k : Nat) (x0 : Int) (x1 : LR) (x2 : Int) (x3 : Int) (x4 : LR) (x5 : Int) (K : (Bool → Option α)) : Option α := T93a (f143a k) K x0 x1 x2 x3 x4 x5
noncomputable def W93a (F : Int → LR → Int → Int → LR → Int → (Bool → OR) → OR) : Spec := mkSpec [(.agg [(.i i6), (.l 97 vw), (.i i6)]), (.agg [(.i i6), (.l 97 vw), (.i i6)])] [] fun h h' K => F (hI (lget h 0 .no)) (hR (lget h 1 .no)) (hI (lget h 2 .no)) (hI (lget h 3 .no)) (hR (lget h 4 .no)) (hI (lget h 5 .no)) (fun y0 => K (.ok (AV.b y0) []))
theorem run93a (c143a : LR → LR → (Bool → OR) → OR) (jp : JP) (k : Nat) (K : Res → OR) (x0 : Int) (x1 : LR) (x2 : Int) (x3 : Int) (x4 : LR) (x5 : Int) : runF Tryz.prog Gl (rhoL [(143, W143a c143a)]) (loopN k) jp Tryz.f93 [(AV.agg [(ai x0), (AV.lst 97 x1 vw), (ai x2)]), (AV.agg [(ai x3), (AV.lst 97 x4 vw), (ai x5)])] [] K = T93a c143a (fun y0 => K (.ok (AV.b y0) [])) x0 x1 x2 x3 x4 x5 := by kernel_rfl
theorem ok93a (k : Nat) : SpecOK Tryz.prog Gl (W93a (f93a k)) 93 :=
  mk_ok' (ρ := (rhoL [(143, W143a (f143a k))])) (rhoL_ok (forall_cons (ok143a k) forall_nil)) Tryz_mixed (g := 93) (fn := Tryz.f93) (by kernel_rfl) (by kernel_rfl) k fun h h' K => (run93a (f143a k) jpId k K (hI (lget h 0 .no)) (hR (lget h 1 .no)) (hI (lget h 2 .no)) (hI (lget h 3 .no)) (hR (lget h 4 .no)) (hI (lget h 5 .no))).trans rfl
noncomputable def h94a_1 (s0_3 : Int) (x0 : LR) (x1 : LR) : Bool :=
  (Bool.and (ieq (toI (lget (rget x0 s0_3) 0 uk)) (toI (lget (rget x1 s0_3) 0 uk))) (Bool.and (ieq (toI (lget (rget x0 s0_3) 1 uk)) (toI (lget (rget x1 s0_3) 1 uk))) (Bool.and (ieq (toI (lget (rget x0 s0_3) 2 uk)) (toI (lget (rget x1 s0_3) 2 uk))) true)))
noncomputable def T94al0 {α : Type} (r0 : Int → Option α) (K : (Bool → Option α)) (x0 : LR) (x1 : LR) (s0_3 : Int) : Option α :=
  (bif (ilt s0_3 (rlen x0)) then (bif (ile (0 : Int) s0_3) then (bif (ilt s0_3 (rlen x0)) then (bif (ile (0 : Int) s0_3) then (bif (ilt s0_3 (rlen x1)) then (bif (Bool.not (h94a_1 s0_3 x0 x1)) then (K false) else (r0 (wadd i6 s0_3 (1 : Int)))) else none) else none) else none) else none) else (K true))
noncomputable def T94a {α : Type} (l0 : LR → LR → Int → Option α) (K : (Bool → Option α)) (x0 : LR) (x1 : LR) : Option α :=
  (bif (ine (rlen x0) (rlen x1)) then (K false) else (l0 x0 x1 (0 : Int)))
noncomputable def L94al0 {α : Type} (k : Nat) (K : (Bool → Option α)) (x0 : LR) (x1 : LR) : Nat → Int → Option α
  | 0, _ => none
  | n + 1, s0_3 => T94al0 (fun s0_3 => L94al0 k K x0 x1 n s0_3) K x0 x1 s0_3
noncomputable def f94a {α : Type} (k : Nat) (x0 : LR) (x1 : LR) (K : (Bool → Option α)) : Option α := T94a (fun x0 x1 s0_3 => (L94al0 k K x0 x1 k) s0_3) K x0 x1
noncomputable def W94a (F : LR → LR → (Bool → OR) → OR) : Spec := mkSpec [(.c (.l 59 vw)), (.c (.l 59 vw))] [] fun h h' K => F (hR (lget h 0 .no)) (hR (lget h 1 .no)) (fun y0 => K (.ok (AV.b y0) []))
noncomputable def R94al0 (ρ : FuncId → Fn) (jp : JP) (k : Nat) (K : Res → OR) (x0 : LR) (x1 : LR) (n : Nat) (s0_3 : Int) : OR :=
  atLoop Tryz.prog Gl ρ (loopN k) jp Tryz.f94 0 K [1, 1, 0, 1, 0] [] n 8 [(AV.lst 59 x0 vw), (AV.lst 59 x1 vw), uk, uk, (AV.b false), (ai s0_3), uk, uk, uk, uk, uk, uk, uk, uk, uk, uk, uk, uk, uk, uk, uk, uk, uk, uk, uk, uk] [] []
theorem step94al0 (jp : JP) (k : Nat) (K : Res → OR) (x0 : LR) (x1 : LR) (n : Nat) (s0_3 : Int) : R94al0 (rhoL []) jp k K x0 x1 (n + 1) s0_3 = T94al0 (fun s0_3 => R94al0 (rhoL []) jp k K x0 x1 n s0_3) (fun y0 => K (.ok (AV.b y0) [])) x0 x1 s0_3 := by kernel_rfl
theorem loop94al0 (k : Nat) (K : Res → OR) (x0 : LR) (x1 : LR) : ∀ (n : Nat) (s0_3 : Int), R94al0 (rhoL []) jpId k K x0 x1 n s0_3 = L94al0 k (fun y0 => K (.ok (AV.b y0) [])) x0 x1 n s0_3 := by
  intro n
  induction n generalizing x0 x1 with
  | zero => intro s0_3; kernel_rfl
  | succ n ih =>
    intro s0_3
    rw [step94al0 jpId k K]
    simp only [ih]
    kernel_rfl
theorem run94a (jp : JP) (k : Nat) (K : Res → OR) (x0 : LR) (x1 : LR) : runF Tryz.prog Gl (rhoL []) (loopN k) jp Tryz.f94 [(AV.lst 59 x0 vw), (AV.lst 59 x1 vw)] [] K = T94a (fun x0 x1 s0_3 => R94al0 (rhoL []) jp k K x0 x1 k s0_3) (fun y0 => K (.ok (AV.b y0) [])) x0 x1 := by kernel_rfl
theorem ok94a (k : Nat) : SpecOK Tryz.prog Gl (W94a (f94a k)) 94 :=
  mk_ok' (ρ := (rhoL [])) (rhoL_ok forall_nil) Tryz_mixed (g := 94) (fn := Tryz.f94) (by kernel_rfl) (by kernel_rfl) k fun h h' K => (run94a jpId k K (hR (lget h 0 .no)) (hR (lget h 1 .no))).trans (by simp only [loop94al0 k K]; rfl)
noncomputable def T49a {α : Type} (c92a : LB → Int → Int → LR → LR → LB → Int → Int → LR → LR → (Bool → Option α) → Option α) (c93a : Int → LR → Int → Int → LR → Int → (Bool → Option α) → Option α) (c94a : LR → LR → (Bool → Option α) → Option α) (K : (Bool → Option α)) (x0 : Int) (x1 : LB) (x2 : Int) (x3 : Int) (x4 : LR) (x5 : LR) (x6 : LB) (x7 : LB) (x8 : LB) (x9 : Int) (x10 : Int) (x11 : LR) (x12 : Int) (x13 : Int) (x14 : LR) (x15 : LB) (x16 : Int) (x17 : Int) (x18 : Int) (x19 : Int) (x20 : Int) (x21 : LB) (x22 : Int) (x23 : Int) (x24 : LR) (x25 : LR) (x26 : LB) (x27 : LB) (x28 : LB) (x29 : Int) (x30 : Int) (x31 : LR) (x32 : Int) (x33 : Int) (x34 : LR) (x35 : LB) (x36 : Int) (x37 : Int) (x38 : Int) (x39 : Int) : Option α :=
  (bif (ieq x0 x20) then (c92a x1 x2 x3 x4 x5 x21 x22 x23 x24 x25 (fun y0 => (bif y0 then (bif (seq x6 x26) then (bif (Bool.and (seq x7 x27) (Bool.and (seq x8 x28) (Bool.and (ieq x9 x29) true))) then (c93a x10 x11 x12 x30 x31 x32 (fun y1 => (bif y1 then (bif (ieq x13 x33) then (c94a x14 x34 (fun y2 => (bif y2 then (bif (seq x15 x35) then (bif (ieq x16 x36) then (bif (ieq x17 x37) then (bif (ieq x18 x38) then (K (ieq x19 x39)) else (K false)) else (K false)) else (K false)) else (K false)) else (K false)))) else (K false)) else (K false)))) else (K false)) else (K false)) else (K false)))) else (K false))
noncomputable def f49a {α : Type} (k : Nat) (x0 : Int) (x1 : LB) (x2 : Int) (x3 : Int) (x4 : LR) (x5 : LR) (x6 : LB) (x7 : LB) (x8 : LB) (x9 : Int) (x10 : Int) (x11 : LR) (x12 : Int) (x13 : Int) (x14 : LR) (x15 : LB) (x16 : Int) (x17 : Int) (x18 : Int) (x19 : Int) (x20 : Int) (x21 : LB) (x22 : Int) (x23 : Int) (x24 : LR) (x25 : LR) (x26 : LB) (x27 : LB) (x28 : LB) (x29 : Int) (x30 : Int) (x31 : LR) (x32 : Int) (x33 : Int) (x34 : LR) (x35 : LB) (x36 : Int) (x37 : Int) (x38 : Int) (x39 : Int) (K : (Bool → Option α)) : Option α := T49a (f92a k) (f93a k) (f94a k) K x0 x1 x2 x3 x4 x5 x6 x7 x8 x9 x10 x11 x12 x13 x14 x15 x16 x17 x18 x19 x20 x21 x22 x23 x24 x25 x26 x27 x28 x29 x30 x31 x32 x33 x34 x35 x36 x37 x38 x39
noncomputable def W49a (F : Int → LB → Int → Int → LR → LR → LB → LB → LB → Int → Int → LR → Int → Int → LR → LB → Int → Int → Int → Int → Int → LB → Int → Int → LR → LR → LB → LB → LB → Int → Int → LR → Int → Int → LR → LB → Int → Int → Int → Int → (Bool → OR) → OR) : Spec := mkSpec [(.agg [(.i i6), .s, (.i i6), (.i i6), (.l 61 vw), (.l 63 vw), .s, .s, .s, (.i i6), (.i i6), (.l 97 vw), (.i i6), (.i i6), (.l 59 vw), .s, (.i i6), (.i i6), (.i i6), (.i i6)]), (.agg [(.i i6), .s, (.i i6), (.i i6), (.l 61 vw), (.l 63 vw), .s, .s, .s, (.i i6), (.i i6), (.l 97 vw), (.i i6), (.i i6), (.l 59 vw), .s, (.i i6), (.i i6), (.i i6), (.i i6)])] [] fun h h' K => F (hI (lget h 0 .no)) (hS (lget h 1 .no)) (hI (lget h 2 .no)) (hI (lget h 3 .no)) (hR (lget h 4 .no)) (hR (lget h 5 .no)) (hS (lget h 6 .no)) (hS (lget h 7 .no)) (hS (lget h 8 .no)) (hI (lget h 9 .no)) (hI (lget h 10 .no)) (hR (lget h 11 .no)) (hI (lget h 12 .no)) (hI (lget h 13 .no)) (hR (lget h 14 .no)) (hS (lget h 15 .no)) (hI (lget h 16 .no)) (hI (lget h 17 .no)) (hI (lget h 18 .no)) (hI (lget h 19 .no)) (hI (lget h 20 .no)) (hS (lget h 21 .no)) (hI (lget h 22 .no)) (hI (lget h 23 .no)) (hR (lget h 24 .no)) (hR (lget h 25 .no)) (hS (lget h 26 .no)) (hS (lget h 27 .no)) (hS (lget h 28 .no)) (hI (lget h 29 .no)) (hI (lget h 30 .no)) (hR (lget h 31 .no)) (hI (lget h 32 .no)) (hI (lget h 33 .no)) (hR (lget h 34 .no)) (hS (lget h 35 .no)) (hI (lget h 36 .no)) (hI (lget h 37 .no)) (hI (lget h 38 .no)) (hI (lget h 39 .no)) (fun y0 => K (.ok (AV.b y0) []))
theorem run49a (c92a : LB → Int → Int → LR → LR → LB → Int → Int → LR → LR → (Bool → OR) → OR) (c93a : Int → LR → Int → Int → LR → Int → (Bool → OR) → OR) (c94a : LR → LR → (Bool → OR) → OR) (jp : JP) (k : Nat) (K : Res → OR) (x0 : Int) (x1 : LB) (x2 : Int) (x3 : Int) (x4 : LR) (x5 : LR) (x6 : LB) (x7 : LB) (x8 : LB) (x9 : Int) (x10 : Int) (x11 : LR) (x12 : Int) (x13 : Int) (x14 : LR) (x15 : LB) (x16 : Int) (x17 : Int) (x18 : Int) (x19 : Int) (x20 : Int) (x21 : LB) (x22 : Int) (x23 : Int) (x24 : LR) (x25 : LR) (x26 : LB) (x27 : LB) (x28 : LB) (x29 : Int) (x30 : Int) (x31 : LR) (x32 : Int) (x33 : Int) (x34 : LR) (x35 : LB) (x36 : Int) (x37 : Int) (x38 : Int) (x39 : Int) : runF Tryz.prog Gl (rhoL [(92, W92a c92a), (93, W93a c93a), (94, W94a c94a)]) (loopN k) jp Tryz.f49 [(AV.agg [(ai x0), (AV.s x1), (ai x2), (ai x3), (AV.lst 61 x4 vw), (AV.lst 63 x5 vw), (AV.s x6), (AV.s x7), (AV.s x8), (ai x9), (ai x10), (AV.lst 97 x11 vw), (ai x12), (ai x13), (AV.lst 59 x14 vw), (AV.s x15), (ai x16), (ai x17), (ai x18), (ai x19)]), (AV.agg [(ai x20), (AV.s x21), (ai x22), (ai x23), (AV.lst 61 x24 vw), (AV.lst 63 x25 vw), (AV.s x26), (AV.s x27), (AV.s x28), (ai x29), (ai x30), (AV.lst 97 x31 vw), (ai x32), (ai x33), (AV.lst 59 x34 vw), (AV.s x35), (ai x36), (ai x37), (ai x38), (ai x39)])] [] K = T49a c92a c93a c94a (fun y0 => K (.ok (AV.b y0) [])) x0 x1 x2 x3 x4 x5 x6 x7 x8 x9 x10 x11 x12 x13 x14 x15 x16 x17 x18 x19 x20 x21 x22 x23 x24 x25 x26 x27 x28 x29 x30 x31 x32 x33 x34 x35 x36 x37 x38 x39 := by kernel_rfl
theorem ok49a (k : Nat) : SpecOK Tryz.prog Gl (W49a (f49a k)) 49 :=
  mk_ok' (ρ := (rhoL [(92, W92a (f92a k)), (93, W93a (f93a k)), (94, W94a (f94a k))])) (rhoL_ok (forall_cons (ok92a k) (forall_cons (ok93a k) (forall_cons (ok94a k) forall_nil)))) Tryz_mixed (g := 49) (fn := Tryz.f49) (by kernel_rfl) (by kernel_rfl) k fun h h' K => (run49a (f92a k) (f93a k) (f94a k) jpId k K (hI (lget h 0 .no)) (hS (lget h 1 .no)) (hI (lget h 2 .no)) (hI (lget h 3 .no)) (hR (lget h 4 .no)) (hR (lget h 5 .no)) (hS (lget h 6 .no)) (hS (lget h 7 .no)) (hS (lget h 8 .no)) (hI (lget h 9 .no)) (hI (lget h 10 .no)) (hR (lget h 11 .no)) (hI (lget h 12 .no)) (hI (lget h 13 .no)) (hR (lget h 14 .no)) (hS (lget h 15 .no)) (hI (lget h 16 .no)) (hI (lget h 17 .no)) (hI (lget h 18 .no)) (hI (lget h 19 .no)) (hI (lget h 20 .no)) (hS (lget h 21 .no)) (hI (lget h 22 .no)) (hI (lget h 23 .no)) (hR (lget h 24 .no)) (hR (lget h 25 .no)) (hS (lget h 26 .no)) (hS (lget h 27 .no)) (hS (lget h 28 .no)) (hI (lget h 29 .no)) (hI (lget h 30 .no)) (hR (lget h 31 .no)) (hI (lget h 32 .no)) (hI (lget h 33 .no)) (hR (lget h 34 .no)) (hS (lget h 35 .no)) (hI (lget h 36 .no)) (hI (lget h 37 .no)) (hI (lget h 38 .no)) (hI (lget h 39 .no))).trans rfl
noncomputable def T16al0 {α : Type} (c49a : Int → LB → Int → Int → LR → LR → LB → LB → LB → Int → Int → LR → Int → Int → LR → LB → Int → Int → Int → Int → Int → LB → Int → Int → LR → LR → LB → LB → LB → Int → Int → LR → Int → Int → LR → LB → Int → Int → Int → Int → (Bool → Option α) → Option α) (r0 : Int → Option α) (K : (Bool → Option α)) (x0 : LR) (x1 : LR) (s0_3 : Int) : Option α :=
  (bif (ilt s0_3 (rlen x0)) then (bif (ile (0 : Int) s0_3) then (bif (ilt s0_3 (rlen x0)) then (bif (ile (0 : Int) s0_3) then (bif (ilt s0_3 (rlen x1)) then (c49a (toI (lget (rget x0 s0_3) 0 uk)) (toS (lget (rget x0 s0_3) 1 uk)) (toI (lget (rget x0 s0_3) 2 uk)) (toI (lget (rget x0 s0_3) 3 uk)) (toR (lget (rget x0 s0_3) 4 uk)) (toR (lget (rget x0 s0_3) 5 uk)) (toS (lget (rget x0 s0_3) 6 uk)) (toS (lget (rget x0 s0_3) 7 uk)) (toS (lget (rget x0 s0_3) 8 uk)) (toI (lget (rget x0 s0_3) 9 uk)) (toI (lget (rget x0 s0_3) 10 uk)) (toR (lget (rget x0 s0_3) 11 uk)) (toI (lget (rget x0 s0_3) 12 uk)) (toI (lget (rget x0 s0_3) 13 uk)) (toR (lget (rget x0 s0_3) 14 uk)) (toS (lget (rget x0 s0_3) 15 uk)) (toI (lget (rget x0 s0_3) 16 uk)) (toI (lget (rget x0 s0_3) 17 uk)) (toI (lget (rget x0 s0_3) 18 uk)) (toI (lget (rget x0 s0_3) 19 uk)) (toI (lget (rget x1 s0_3) 0 uk)) (toS (lget (rget x1 s0_3) 1 uk)) (toI (lget (rget x1 s0_3) 2 uk)) (toI (lget (rget x1 s0_3) 3 uk)) (toR (lget (rget x1 s0_3) 4 uk)) (toR (lget (rget x1 s0_3) 5 uk)) (toS (lget (rget x1 s0_3) 6 uk)) (toS (lget (rget x1 s0_3) 7 uk)) (toS (lget (rget x1 s0_3) 8 uk)) (toI (lget (rget x1 s0_3) 9 uk)) (toI (lget (rget x1 s0_3) 10 uk)) (toR (lget (rget x1 s0_3) 11 uk)) (toI (lget (rget x1 s0_3) 12 uk)) (toI (lget (rget x1 s0_3) 13 uk)) (toR (lget (rget x1 s0_3) 14 uk)) (toS (lget (rget x1 s0_3) 15 uk)) (toI (lget (rget x1 s0_3) 16 uk)) (toI (lget (rget x1 s0_3) 17 uk)) (toI (lget (rget x1 s0_3) 18 uk)) (toI (lget (rget x1 s0_3) 19 uk)) (fun y0 => (bif (Bool.not y0) then (K false) else (r0 (wadd i6 s0_3 (1 : Int)))))) else none) else none) else none) else none) else (K true))
noncomputable def T16a {α : Type} (l0 : LR → LR → Int → Option α) (K : (Bool → Option α)) (x0 : LR) (x1 : LR) : Option α :=
  (bif (ine (rlen x0) (rlen x1)) then (K false) else (l0 x0 x1 (0 : Int)))
noncomputable def L16al0 {α : Type} (k : Nat) (K : (Bool → Option α)) (x0 : LR) (x1 : LR) : Nat → Int → Option α
  | 0, _ => none
  | n + 1, s0_3 => T16al0 (f49a k) (fun s0_3 => L16al0 k K x0 x1 n s0_3) K x0 x1 s0_3
noncomputable def f16a {α : Type} (k : Nat) (x0 : LR) (x1 : LR) (K : (Bool → Option α)) : Option α := T16a (fun x0 x1 s0_3 => (L16al0 k K x0 x1 k) s0_3) K x0 x1
noncomputable def W16a (F : LR → LR → (Bool → OR) → OR) : Spec := mkSpec [(.c (.l 38 vw)), (.c (.l 38 vw))] [] fun h h' K => F (hR (lget h 0 .no)) (hR (lget h 1 .no)) (fun y0 => K (.ok (AV.b y0) []))
noncomputable def R16al0 (ρ : FuncId → Fn) (jp : JP) (k : Nat) (K : Res → OR) (x0 : LR) (x1 : LR) (n : Nat) (s0_3 : Int) : OR :=
  atLoop Tryz.prog Gl ρ (loopN k) jp Tryz.f16 0 K [1, 1, 0, 1, 0] [] n 8 [(AV.lst 38 x0 vw), (AV.lst 38 x1 vw), uk, uk, (AV.b false), (ai s0_3), uk, uk, uk, uk, uk, uk, uk, uk, uk, uk, uk, uk, uk, uk, uk, uk, uk, uk, uk, uk, uk] [] []
theorem step16al0 (c49a : Int → LB → Int → Int → LR → LR → LB → LB → LB → Int → Int → LR → Int → Int → LR → LB → Int → Int → Int → Int → Int → LB → Int → Int → LR → LR → LB → LB → LB → Int → Int → LR → Int → Int → LR → LB → Int → Int → Int → Int → (Bool → OR) → OR) (jp : JP) (k : Nat) (K : Res → OR) (x0 : LR) (x1 : LR) (n : Nat) (s0_3 : Int) : R16al0 (rhoL [(49, W49a c49a)]) jp k K x0 x1 (n + 1) s0_3 = T16al0 c49a (fun s0_3 => R16al0 (rhoL [(49, W49a c49a)]) jp k K x0 x1 n s0_3) (fun y0 => K (.ok (AV.b y0) [])) x0 x1 s0_3 := by kernel_rfl
theorem loop16al0 (k : Nat) (K : Res → OR) (x0 : LR) (x1 : LR) : ∀ (n : Nat) (s0_3 : Int), R16al0 (rhoL [(49, W49a (f49a k))]) jpId k K x0 x1 n s0_3 = L16al0 k (fun y0 => K (.ok (AV.b y0) [])) x0 x1 n s0_3 := by
  intro n
  induction n generalizing x0 x1 with
  | zero => intro s0_3; kernel_rfl
  | succ n ih =>
    intro s0_3
    rw [step16al0 (f49a k) jpId k K]
    simp only [ih]
    kernel_rfl
theorem run16a (c49a : Int → LB → Int → Int → LR → LR → LB → LB → LB → Int → Int → LR → Int → Int → LR → LB → Int → Int → Int → Int → Int → LB → Int → Int → LR → LR → LB → LB → LB → Int → Int → LR → Int → Int → LR → LB → Int → Int → Int → Int → (Bool → OR) → OR) (jp : JP) (k : Nat) (K : Res → OR) (x0 : LR) (x1 : LR) : runF Tryz.prog Gl (rhoL [(49, W49a c49a)]) (loopN k) jp Tryz.f16 [(AV.lst 38 x0 vw), (AV.lst 38 x1 vw)] [] K = T16a (fun x0 x1 s0_3 => R16al0 (rhoL [(49, W49a c49a)]) jp k K x0 x1 k s0_3) (fun y0 => K (.ok (AV.b y0) [])) x0 x1 := by kernel_rfl
theorem ok16a (k : Nat) : SpecOK Tryz.prog Gl (W16a (f16a k)) 16 :=
  mk_ok' (ρ := (rhoL [(49, W49a (f49a k))])) (rhoL_ok (forall_cons (ok49a k) forall_nil)) Tryz_mixed (g := 16) (fn := Tryz.f16) (by kernel_rfl) (by kernel_rfl) k fun h h' K => (run16a (f49a k) jpId k K (hR (lget h 0 .no)) (hR (lget h 1 .no))).trans (by simp only [loop16al0 k K]; rfl)
noncomputable def h18a_0 (y0 : LB) : Bool :=
  (seq y0 ([91, 123, 34, 105, 110, 102, 111, 34, 58, 123, 34, 99, 108, 105, 101, 110, 116, 34, 58, 49, 44, 34, 115, 101, 113, 34, 58, 50, 44, 34, 111, 112, 34, 58, 48, 44, 34, 116, 105, 109, 101, 34, 58, 51, 125, 125, 44, 123, 34, 114, 101, 109, 111, 118, 101, 34, 58, 34, 100, 97, 116, 97, 47, 120, 34, 125, 93] : LB))
noncomputable def T18a {α : Type} (c11a : LR → (LB → Int → Option α) → Option α) (c13a : LB → (LR → Int → Option α) → Option α) (c15a : Int → (Option α) → Option α) (c16a : LR → LR → (Bool → Option α) → Option α) (c9a : Int → LB → Int → Int → LR → LR → LB → LB → LB → Int → Int → LR → Int → Int → LR → LB → Int → Int → Int → Int → (Bool → Option α) → Option α) (K : (Bool → Option α)) : Option α :=
  (c11a (((ai (6 : Int)) :: ((AV.s ([] : LB)) :: ((ai (0 : Int)) :: ((ai (0 : Int)) :: ((AV.lst 61 [] vw) :: ((AV.lst 63 [] vw) :: ((AV.s ([] : LB)) :: ((AV.s ([] : LB)) :: ((AV.s ([] : LB)) :: ((ai (0 : Int)) :: ((ai (0 : Int)) :: ((AV.lst 97 [] vw) :: ((ai (0 : Int)) :: ((ai (0 : Int)) :: ((AV.lst 59 [] vw) :: ((AV.s ([] : LB)) :: ((ai (1 : Int)) :: ((ai (2 : Int)) :: ((ai (0 : Int)) :: ((ai (3 : Int)) :: [])))))))))))))))))))) :: (((ai (1 : Int)) :: ((AV.s ([] : LB)) :: ((ai (0 : Int)) :: ((ai (0 : Int)) :: ((AV.lst 61 [] vw) :: ((AV.lst 63 [] vw) :: ((AV.s ([100, 97, 116, 97, 47, 120] : LB)) :: ((AV.s ([] : LB)) :: ((AV.s ([] : LB)) :: ((ai (0 : Int)) :: ((ai (0 : Int)) :: ((AV.lst 97 [] vw) :: ((ai (0 : Int)) :: ((ai (0 : Int)) :: ((AV.lst 59 [] vw) :: ((AV.s ([] : LB)) :: ((ai (0 : Int)) :: ((ai (0 : Int)) :: ((ai (0 : Int)) :: ((ai (0 : Int)) :: [])))))))))))))))))))) :: [])) (fun y0 y1 => (c13a y0 (fun y2 y3 => (c13a ([91, 49, 93] : LB) (fun y4 y5 => (bif (h18a_0 y0) then (c15a y1 (bif (ieq y1 (0 : Int)) then (c16a y2 (((ai (6 : Int)) :: ((AV.s ([] : LB)) :: ((ai (0 : Int)) :: ((ai (0 : Int)) :: ((AV.lst 61 [] vw) :: ((AV.lst 63 [] vw) :: ((AV.s ([] : LB)) :: ((AV.s ([] : LB)) :: ((AV.s ([] : LB)) :: ((ai (0 : Int)) :: ((ai (0 : Int)) :: ((AV.lst 97 [] vw) :: ((ai (0 : Int)) :: ((ai (0 : Int)) :: ((AV.lst 59 [] vw) :: ((AV.s ([] : LB)) :: ((ai (1 : Int)) :: ((ai (2 : Int)) :: ((ai (0 : Int)) :: ((ai (3 : Int)) :: [])))))))))))))))))))) :: (((ai (1 : Int)) :: ((AV.s ([] : LB)) :: ((ai (0 : Int)) :: ((ai (0 : Int)) :: ((AV.lst 61 [] vw) :: ((AV.lst 63 [] vw) :: ((AV.s ([100, 97, 116, 97, 47, 120] : LB)) :: ((AV.s ([] : LB)) :: ((AV.s ([] : LB)) :: ((ai (0 : Int)) :: ((ai (0 : Int)) :: ((AV.lst 97 [] vw) :: ((ai (0 : Int)) :: ((ai (0 : Int)) :: ((AV.lst 59 [] vw) :: ((AV.s ([] : LB)) :: ((ai (0 : Int)) :: ((ai (0 : Int)) :: ((ai (0 : Int)) :: ((ai (0 : Int)) :: [])))))))))))))))))))) :: [])) (fun y6 => (bif y6 then (c15a y3 (bif (ieq y3 (0 : Int)) then (c15a y5 (bif (ieq y5 (1900 : Int)) then (c9a (6 : Int) ([] : LB) (0 : Int) (0 : Int) [] [] ([] : LB) ([] : LB) ([] : LB) (0 : Int) (0 : Int) [] (0 : Int) (0 : Int) [] ([] : LB) (1 : Int) (2 : Int) (0 : Int) (3 : Int) (fun y7 => (bif y7 then (c9a (9 : Int) ([] : LB) (0 : Int) (0 : Int) [] [] ([] : LB) ([] : LB) ([] : LB) (0 : Int) (0 : Int) [] (0 : Int) (0 : Int) [] ([] : LB) (0 : Int) (0 : Int) (0 : Int) (0 : Int) (fun y8 => (K (Bool.not y8)))) else (K false)))) else (K false))) else (K false))) else (K false)))) else (K false))) else (K false))))))))
noncomputable def f18a {α : Type} (k : Nat) (K : (Bool → Option α)) : Option α := T18a (f11a k) (f13a k) (f15a k) (f16a k) (f9a k) K
noncomputable def W18a (F : (Bool → OR) → OR) : Spec := mkSpec [] [] fun h h' K => F (fun y0 => K (.ok (AV.b y0) []))
theorem run18a (c11a : LR → (LB → Int → OR) → OR) (c13a : LB → (LR → Int → OR) → OR) (c15a : Int → (OR) → OR) (c16a : LR → LR → (Bool → OR) → OR) (c9a : Int → LB → Int → Int → LR → LR → LB → LB → LB → Int → Int → LR → Int → Int → LR → LB → Int → Int → Int → Int → (Bool → OR) → OR) (jp : JP) (k : Nat) (K : Res → OR) : runF Tryz.prog Gl (rhoL [(11, W11a c11a), (13, W13a c13a), (15, W15a c15a), (16, W16a c16a), (9, W9a c9a)]) (loopN k) jp Tryz.f18 [] [] K = T18a c11a c13a c15a c16a c9a (fun y0 => K (.ok (AV.b y0) [])) := by kernel_rfl
theorem ok18a (k : Nat) : SpecOK Tryz.prog Gl (W18a (f18a k)) 18 :=
  mk_ok' (ρ := (rhoL [(11, W11a (f11a k)), (13, W13a (f13a k)), (15, W15a (f15a k)), (16, W16a (f16a k)), (9, W9a (f9a k))])) (rhoL_ok (forall_cons (ok11a k) (forall_cons (ok13a k) (forall_cons (ok15a k) (forall_cons (ok16a k) (forall_cons (ok9a k) forall_nil)))))) Tryz_mixed (g := 18) (fn := Tryz.f18) (by kernel_rfl) (by kernel_rfl) k fun h h' K => (run18a (f11a k) (f13a k) (f15a k) (f16a k) (f9a k) jpId k K).trans rfl
noncomputable def T63al0 {α : Type} (r0 : Int → Option α) (K : (Bool → Option α)) (x0 : LB) (s0_2 : Int) : Option α :=
  (bif (ilt s0_2 (slen x0)) then (bif (ile (0 : Int) s0_2) then (bif (ilt s0_2 (slen x0)) then (bif (ige (sat x0 s0_2) (97 : Int)) then (bif (ile (sat x0 s0_2) (122 : Int)) then (r0 (wadd i6 s0_2 (1 : Int))) else (bif (ige (sat x0 s0_2) (48 : Int)) then (bif (ile (sat x0 s0_2) (57 : Int)) then (r0 (wadd i6 s0_2 (1 : Int))) else (bif (Bool.not (ieq (sat x0 s0_2) (95 : Int))) then (K false) else (r0 (wadd i6 s0_2 (1 : Int))))) else (bif (Bool.not (ieq (sat x0 s0_2) (95 : Int))) then (K false) else (r0 (wadd i6 s0_2 (1 : Int)))))) else (bif (ige (sat x0 s0_2) (48 : Int)) then (bif (ile (sat x0 s0_2) (57 : Int)) then (r0 (wadd i6 s0_2 (1 : Int))) else (bif (Bool.not (ieq (sat x0 s0_2) (95 : Int))) then (K false) else (r0 (wadd i6 s0_2 (1 : Int))))) else (bif (Bool.not (ieq (sat x0 s0_2) (95 : Int))) then (K false) else (r0 (wadd i6 s0_2 (1 : Int)))))) else none) else none) else (K true))
noncomputable def T63a {α : Type} (l0 : LB → Int → Option α) (K : (Bool → Option α)) (x0 : LB) : Option α :=
  (bif (ilt (slen x0) (1 : Int)) then (K false) else (bif (igt (slen x0) (16 : Int)) then (K false) else (l0 x0 (0 : Int))))
noncomputable def L63al0 {α : Type} (k : Nat) (K : (Bool → Option α)) (x0 : LB) : Nat → Int → Option α
  | 0, _ => none
  | n + 1, s0_2 => T63al0 (fun s0_2 => L63al0 k K x0 n s0_2) K x0 s0_2
noncomputable def f63a {α : Type} (k : Nat) (x0 : LB) (K : (Bool → Option α)) : Option α := T63a (fun x0 s0_2 => (L63al0 k K x0 k) s0_2) K x0
noncomputable def W63a (F : LB → (Bool → OR) → OR) : Spec := mkSpec [(.c .s)] [] fun h h' K => F (hS (lget h 0 .no)) (fun y0 => K (.ok (AV.b y0) []))
noncomputable def R63al0 (ρ : FuncId → Fn) (jp : JP) (k : Nat) (K : Res → OR) (x0 : LB) (n : Nat) (s0_2 : Int) : OR :=
  atLoop Tryz.prog Gl ρ (loopN k) jp Tryz.f63 0 K [1, 1, 0, 1, 0] [] n 11 [(AV.s x0), uk, (AV.b false), (ai s0_2), uk, uk, uk, uk, uk, uk, uk, uk, uk, uk, uk, uk, uk, uk, uk, uk, uk, uk, uk, uk, uk, uk, uk, uk, uk, uk, uk, uk, uk, uk, uk, uk, uk, uk, uk, uk, uk] [] []
theorem step63al0 (jp : JP) (k : Nat) (K : Res → OR) (x0 : LB) (n : Nat) (s0_2 : Int) : R63al0 (rhoL []) jp k K x0 (n + 1) s0_2 = T63al0 (fun s0_2 => R63al0 (rhoL []) jp k K x0 n s0_2) (fun y0 => K (.ok (AV.b y0) [])) x0 s0_2 := by kernel_rfl
theorem loop63al0 (k : Nat) (K : Res → OR) (x0 : LB) : ∀ (n : Nat) (s0_2 : Int), R63al0 (rhoL []) jpId k K x0 n s0_2 = L63al0 k (fun y0 => K (.ok (AV.b y0) [])) x0 n s0_2 := by
  intro n
  induction n generalizing x0 with
  | zero => intro s0_2; kernel_rfl
  | succ n ih =>
    intro s0_2
    rw [step63al0 jpId k K]
    simp only [ih]
    kernel_rfl
theorem run63a (jp : JP) (k : Nat) (K : Res → OR) (x0 : LB) : runF Tryz.prog Gl (rhoL []) (loopN k) jp Tryz.f63 [(AV.s x0)] [] K = T63a (fun x0 s0_2 => R63al0 (rhoL []) jp k K x0 k s0_2) (fun y0 => K (.ok (AV.b y0) [])) x0 := by kernel_rfl
theorem ok63a (k : Nat) : SpecOK Tryz.prog Gl (W63a (f63a k)) 63 :=
  mk_ok' (ρ := (rhoL [])) (rhoL_ok forall_nil) Tryz_mixed (g := 63) (fn := Tryz.f63) (by kernel_rfl) (by kernel_rfl) k fun h h' K => (run63a jpId k K (hS (lget h 0 .no))).trans (by simp only [loop63al0 k K]; rfl)
noncomputable def T64a {α : Type} (K : (Bool → Option α)) (x0 : Int) : Option α :=
  (bif (ige x0 (1 : Int)) then (K (ile x0 (3 : Int))) else (K false))
noncomputable def f64a {α : Type} (k : Nat) (x0 : Int) (K : (Bool → Option α)) : Option α := T64a K x0
noncomputable def W64a (F : Int → (Bool → OR) → OR) : Spec := mkSpec [(.c (.i i6))] [] fun h h' K => F (hI (lget h 0 .no)) (fun y0 => K (.ok (AV.b y0) []))
theorem run64a (jp : JP) (k : Nat) (K : Res → OR) (x0 : Int) : runF Tryz.prog Gl (rhoL []) (loopN k) jp Tryz.f64 [(ai x0)] [] K = T64a (fun y0 => K (.ok (AV.b y0) [])) x0 := by kernel_rfl
theorem ok64a (k : Nat) : SpecOK Tryz.prog Gl (W64a (f64a k)) 64 :=
  mk_ok' (ρ := (rhoL [])) (rhoL_ok forall_nil) Tryz_mixed (g := 64) (fn := Tryz.f64) (by kernel_rfl) (by kernel_rfl) k fun h h' K => (run64a jpId k K (hI (lget h 0 .no))).trans rfl
noncomputable def T38al1 {α : Type} (r1 : Int → Option α) (r0 : Int → Option α) (K : (Bool → Option α)) (s0_1 : Int) (x0 : Int) (x1 : LR) (x2 : Int) (s1_2 : Int) : Option α :=
  (bif (ilt s1_2 s0_1) then (bif (ile (0 : Int) s1_2) then (bif (ilt s1_2 (rlen x1)) then (bif (ieq (toI (lget (ldrop 0 (rget x1 s1_2)) 0 uk)) (toI (lget (rget x1 s0_1) 0 uk))) then (K false) else (bif (ile (0 : Int) s1_2) then (bif (ilt s1_2 (rlen x1)) then (bif (seq (toS (lget (ldrop 1 (rget x1 s1_2)) 0 uk)) (toS (lget (rget x1 s0_1) 1 uk))) then (K false) else (r1 (wadd i6 s1_2 (1 : Int)))) else none) else none)) else none) else none) else (r0 (wadd i6 s0_1 (1 : Int))))
noncomputable def T38al0 {α : Type} (c63a : LB → (Bool → Option α) → Option α) (c64a : Int → (Bool → Option α) → Option α) (l1 : Int → Int → LR → Int → Int → Option α) (r0 : Int → Option α) (K : (Bool → Option α)) (x0 : Int) (x1 : LR) (x2 : Int) (s0_1 : Int) : Option α :=
  (bif (ilt s0_1 (rlen x1)) then (bif (ile (0 : Int) s0_1) then (bif (ilt s0_1 (rlen x1)) then (bif (ilt (toI (lget (rget x1 s0_1) 0 uk)) (1 : Int)) then (K false) else (bif (ige (toI (lget (rget x1 s0_1) 0 uk)) x2) then (K false) else (c63a (toS (lget (rget x1 s0_1) 1 uk)) (fun y0 => (bif (Bool.not y0) then (K false) else (c64a (toI (lget (rget x1 s0_1) 2 uk)) (fun y1 => (bif (Bool.not y1) then (K false) else (l1 s0_1 x0 x1 x2 (0 : Int)))))))))) else none) else none) else (K true))
noncomputable def T38a {α : Type} (l0 : Int → LR → Int → Int → Option α) (K : (Bool → Option α)) (x0 : Int) (x1 : LR) (x2 : Int) : Option α :=
  (bif (ilt x0 (0 : Int)) then (K false) else (bif (igt x0 (2147483647 : Int)) then (K false) else (bif (igt x2 (2147483647 : Int)) then (K false) else (bif (ilt (rlen x1) (1 : Int)) then (K false) else (bif (igt (rlen x1) (12 : Int)) then (K false) else (l0 x0 x1 x2 (0 : Int)))))))
noncomputable def L38al1 {α : Type} (k : Nat) (r0 : Int → Option α) (K : (Bool → Option α)) (s0_1 : Int) (x0 : Int) (x1 : LR) (x2 : Int) : Nat → Int → Option α
  | 0, _ => none
  | n + 1, s1_2 => T38al1 (fun s1_2 => L38al1 k r0 K s0_1 x0 x1 x2 n s1_2) r0 K s0_1 x0 x1 x2 s1_2
noncomputable def L38al0 {α : Type} (k : Nat) (K : (Bool → Option α)) (x0 : Int) (x1 : LR) (x2 : Int) : Nat → Int → Option α
  | 0, _ => none
  | n + 1, s0_1 => T38al0 (f63a k) (f64a k) (fun s0_1 x0 x1 x2 s1_2 => (L38al1 k (fun s0_1 => L38al0 k K x0 x1 x2 n s0_1) K s0_1 x0 x1 x2 k) s1_2) (fun s0_1 => L38al0 k K x0 x1 x2 n s0_1) K x0 x1 x2 s0_1
noncomputable def f38a {α : Type} (k : Nat) (x0 : Int) (x1 : LR) (x2 : Int) (K : (Bool → Option α)) : Option α := T38a (fun x0 x1 x2 s0_1 => (L38al0 k K x0 x1 x2 k) s0_1) K x0 x1 x2
noncomputable def W38a (F : Int → LR → Int → (Bool → OR) → OR) : Spec := mkSpec [(.agg [(.i i6), (.l 97 vw), (.i i6)])] [] fun h h' K => F (hI (lget h 0 .no)) (hR (lget h 1 .no)) (hI (lget h 2 .no)) (fun y0 => K (.ok (AV.b y0) []))
noncomputable def R38al1 (ρ : FuncId → Fn) (jp : JP) (k : Nat) (K : Res → OR) (m0 : Nat) (s0_1 : Int) (x0 : Int) (x1 : LR) (x2 : Int) (n : Nat) (s1_2 : Int) : OR :=
  atLoop Tryz.prog Gl ρ (loopN k) jp Tryz.f38 0 K [1, 1, 0, 1, 0, 0, 1, 0, 0, 1, 1, 1, 0] [(m0, 29)] n 65 [uk, (AV.ptr 0 0), (AV.b false), (ai s0_1), (AV.ptr 39 0), (ai s1_2), uk, uk, uk, uk, uk, uk, uk, uk, uk, uk, uk, uk, uk, uk, uk, uk, uk, uk, uk, uk, uk, uk, uk, uk, uk, uk, uk, uk, uk, uk, uk, uk, uk, uk, uk, uk, uk, uk, uk, uk, uk, uk, uk, uk, uk, uk, uk, uk, uk, uk, uk, uk, uk, uk, uk, uk, uk, uk, uk, uk, uk, uk, uk, uk, uk, uk, uk, uk, uk, uk, uk, uk, uk, uk, uk, uk, uk, uk, uk, uk, uk, uk, uk, uk] [(Prod.mk 0 (AObj.box [(ai x0), (AV.lst 97 x1 vw), (ai x2)])), (Prod.mk 39 (AObj.box [(ai (toI (lget (rget x1 s0_1) 0 uk))), (AV.s (toS (lget (rget x1 s0_1) 1 uk))), (ai (toI (lget (rget x1 s0_1) 2 uk)))]))] []
noncomputable def R38al0 (ρ : FuncId → Fn) (jp : JP) (k : Nat) (K : Res → OR) (x0 : Int) (x1 : LR) (x2 : Int) (n : Nat) (s0_1 : Int) : OR :=
  atLoop Tryz.prog Gl ρ (loopN k) jp Tryz.f38 0 K [1, 1, 0, 1, 0] [] n 29 [uk, (AV.ptr 0 0), (AV.b false), (ai s0_1), uk, uk, uk, uk, uk, uk, uk, uk, uk, uk, uk, uk, uk, uk, uk, uk, uk, uk, uk, uk, uk, uk, uk, uk, uk, uk, uk, uk, uk, uk, uk, uk, uk, uk, uk, uk, uk, uk, uk, uk, uk, uk, uk, uk, uk, uk, uk, uk, uk, uk, uk, uk, uk, uk, uk, uk, uk, uk, uk, uk, uk, uk, uk, uk, uk, uk, uk, uk, uk, uk, uk, uk, uk, uk, uk, uk, uk, uk, uk, uk, uk, uk, uk, uk, uk, uk] [(Prod.mk 0 (AObj.box [(ai x0), (AV.lst 97 x1 vw), (ai x2)]))] []
theorem step38al1 (c63a : LB → (Bool → OR) → OR) (c64a : Int → (Bool → OR) → OR) (jp : JP) (k : Nat) (K : Res → OR) (m0 : Nat) (s0_1 : Int) (x0 : Int) (x1 : LR) (x2 : Int) (n : Nat) (s1_2 : Int) : R38al1 (rhoL [(63, W63a c63a), (64, W64a c64a)]) jp k K m0 s0_1 x0 x1 x2 (n + 1) s1_2 = T38al1 (fun s1_2 => R38al1 (rhoL [(63, W63a c63a), (64, W64a c64a)]) jp k K m0 s0_1 x0 x1 x2 n s1_2) (fun s0_1 => R38al0 (rhoL [(63, W63a c63a), (64, W64a c64a)]) jp k K x0 x1 x2 m0 s0_1) (fun y0 => K (.ok (AV.b y0) [])) s0_1 x0 x1 x2 s1_2 := by kernel_rfl
theorem step38al0 (c63a : LB → (Bool → OR) → OR) (c64a : Int → (Bool → OR) → OR) (jp : JP) (k : Nat) (K : Res → OR) (x0 : Int) (x1 : LR) (x2 : Int) (n : Nat) (s0_1 : Int) : R38al0 (rhoL [(63, W63a c63a), (64, W64a c64a)]) jp k K x0 x1 x2 (n + 1) s0_1 = T38al0 c63a c64a (fun s0_1 x0 x1 x2 s1_2 => R38al1 (rhoL [(63, W63a c63a), (64, W64a c64a)]) jp k K n s0_1 x0 x1 x2 k s1_2) (fun s0_1 => R38al0 (rhoL [(63, W63a c63a), (64, W64a c64a)]) jp k K x0 x1 x2 n s0_1) (fun y0 => K (.ok (AV.b y0) [])) x0 x1 x2 s0_1 := by kernel_rfl
theorem loop38al1 (k : Nat) (K : Res → OR) (m0 : Nat) (s0_1 : Int) (x0 : Int) (x1 : LR) (x2 : Int) : ∀ (n : Nat) (s1_2 : Int), R38al1 (rhoL [(63, W63a (f63a k)), (64, W64a (f64a k))]) jpId k K m0 s0_1 x0 x1 x2 n s1_2 = L38al1 k (fun s0_1 => R38al0 (rhoL [(63, W63a (f63a k)), (64, W64a (f64a k))]) jpId k K x0 x1 x2 m0 s0_1) (fun y0 => K (.ok (AV.b y0) [])) s0_1 x0 x1 x2 n s1_2 := by
  intro n
  induction n generalizing m0 s0_1 x0 x1 x2 with
  | zero => intro s1_2; kernel_rfl
  | succ n ih =>
    intro s1_2
    rw [step38al1 (f63a k) (f64a k) jpId k K]
    simp only [ih]
    kernel_rfl
theorem loop38al0 (k : Nat) (K : Res → OR) (x0 : Int) (x1 : LR) (x2 : Int) : ∀ (n : Nat) (s0_1 : Int), R38al0 (rhoL [(63, W63a (f63a k)), (64, W64a (f64a k))]) jpId k K x0 x1 x2 n s0_1 = L38al0 k (fun y0 => K (.ok (AV.b y0) [])) x0 x1 x2 n s0_1 := by
  intro n
  induction n generalizing x0 x1 x2 with
  | zero => intro s0_1; kernel_rfl
  | succ n ih =>
    intro s0_1
    rw [step38al0 (f63a k) (f64a k) jpId k K]
    simp only [loop38al1 k K, ih]
    kernel_rfl
theorem run38a (c63a : LB → (Bool → OR) → OR) (c64a : Int → (Bool → OR) → OR) (jp : JP) (k : Nat) (K : Res → OR) (x0 : Int) (x1 : LR) (x2 : Int) : runF Tryz.prog Gl (rhoL [(63, W63a c63a), (64, W64a c64a)]) (loopN k) jp Tryz.f38 [(AV.agg [(ai x0), (AV.lst 97 x1 vw), (ai x2)])] [] K = T38a (fun x0 x1 x2 s0_1 => R38al0 (rhoL [(63, W63a c63a), (64, W64a c64a)]) jp k K x0 x1 x2 k s0_1) (fun y0 => K (.ok (AV.b y0) [])) x0 x1 x2 := by kernel_rfl
theorem ok38a (k : Nat) : SpecOK Tryz.prog Gl (W38a (f38a k)) 38 :=
  mk_ok' (ρ := (rhoL [(63, W63a (f63a k)), (64, W64a (f64a k))])) (rhoL_ok (forall_cons (ok63a k) (forall_cons (ok64a k) forall_nil))) Tryz_mixed (g := 38) (fn := Tryz.f38) (by kernel_rfl) (by kernel_rfl) k fun h h' K => (run38a (f63a k) (f64a k) jpId k K (hI (lget h 0 .no)) (hR (lget h 1 .no)) (hI (lget h 2 .no))).trans (by simp only [loop38al0 k K]; rfl)
noncomputable def T19al0 {α : Type} (c38a : Int → LR → Int → (Bool → Option α) → Option α) (r0 : Int → LR → Option α) (K : (LR → Int → Int → Option α)) (x0 : LR) (x1 : LR) (s0_3 : Int) (s0_8 : LR) : Option α :=
  (bif (ilt s0_3 (rlen x0)) then (bif (ile (0 : Int) s0_3) then (bif (ilt s0_3 (rlen x0)) then (bif (ile (0 : Int) s0_3) then (bif (ilt s0_3 (rlen x1)) then (bif (room ((List.length s0_8) + 1) 32) then (r0 (wadd i6 s0_3 (1 : Int)) (radd s0_8 (((ai (wadd i6 s0_3 (1 : Int))) :: ((AV.s (toS (lget (rget x0 s0_3) 0 uk))) :: ((ai (toI (lget (rget x1 s0_3) 0 uk))) :: []))) :: []))) else none) else none) else none) else none) else none) else (c38a (0 : Int) s0_8 (wadd i6 (rlen x0) (1 : Int)) (fun y0 => (bif (Bool.not y0) then (K [] (0 : Int) (1200 : Int)) else (K s0_8 (wadd i6 (rlen x0) (1 : Int)) (0 : Int))))))
noncomputable def T19a {α : Type} (l0 : LR → LR → Int → LR → Option α) (K : (LR → Int → Int → Option α)) (x0 : LR) (x1 : LR) : Option α :=
  (bif (ine (rlen x0) (rlen x1)) then (K [] (0 : Int) (1200 : Int)) else (l0 x0 x1 (0 : Int) []))
noncomputable def L19al0 {α : Type} (k : Nat) (K : (LR → Int → Int → Option α)) (x0 : LR) (x1 : LR) : Nat → Int → LR → Option α
  | 0, _, _ => none
  | n + 1, s0_3, s0_8 => T19al0 (f38a k) (fun s0_3 s0_8 => L19al0 k K x0 x1 n s0_3 s0_8) K x0 x1 s0_3 s0_8
noncomputable def f19a {α : Type} (k : Nat) (x0 : LR) (x1 : LR) (K : (LR → Int → Int → Option α)) : Option α := T19a (fun x0 x1 s0_3 s0_8 => (L19al0 k K x0 x1 k) s0_3 s0_8) K x0 x1
noncomputable def W19a (F : LR → LR → (LR → Int → Int → OR) → OR) : Spec := mkSpec [(.c (.l 9 vw)), (.c (.l 3 vw))] [] fun h h' K => F (hR (lget h 0 .no)) (hR (lget h 1 .no)) (fun y0 y1 y2 => K (.ok (AV.tup [(AV.agg [(ai (0 : Int)), (AV.lst 97 y0 vw), (ai y1)]), (ai y2)]) []))
noncomputable def R19al0 (ρ : FuncId → Fn) (jp : JP) (k : Nat) (K : Res → OR) (x0 : LR) (x1 : LR) (n : Nat) (s0_3 : Int) (s0_8 : LR) : OR :=
  atLoop Tryz.prog Gl ρ (loopN k) jp Tryz.f19 0 K [1, 1, 1, 0, 1, 0] [] n 17 [(AV.lst 9 x0 vw), (AV.lst 3 x1 vw), uk, uk, (AV.ptr 0 0), (ai (0 : Int)), (AV.ptr 14 0), (ai s0_3), uk, uk, uk, uk, uk, uk, uk, uk, uk, uk, uk, uk, uk, uk, uk, uk, uk, uk, uk, uk, uk, uk, uk, uk, uk, uk, uk, uk, uk, uk, uk, uk, uk, uk, uk, uk, uk] [(Prod.mk 0 (AObj.box [(ai (0 : Int)), (AV.lst 97 [] (Mark.tk (Tok.ce 0 1) 0)), (ai (0 : Int))])), (Prod.mk 14 (AObj.box [(ai (0 : Int)), (AV.lst 97 s0_8 (Mark.tk (Tok.ce 14 1) 0)), (ai (wadd i6 (rlen x0) (1 : Int)))]))] []
theorem step19al0 (c38a : Int → LR → Int → (Bool → OR) → OR) (jp : JP) (k : Nat) (K : Res → OR) (x0 : LR) (x1 : LR) (n : Nat) (s0_3 : Int) (s0_8 : LR) : R19al0 (rhoL [(38, W38a c38a)]) jp k K x0 x1 (n + 1) s0_3 s0_8 = T19al0 c38a (fun s0_3 s0_8 => R19al0 (rhoL [(38, W38a c38a)]) jp k K x0 x1 n s0_3 s0_8) (fun y0 y1 y2 => K (.ok (AV.tup [(AV.agg [(ai (0 : Int)), (AV.lst 97 y0 vw), (ai y1)]), (ai y2)]) [])) x0 x1 s0_3 s0_8 := by kernel_rfl
theorem loop19al0 (k : Nat) (K : Res → OR) (x0 : LR) (x1 : LR) : ∀ (n : Nat) (s0_3 : Int) (s0_8 : LR), R19al0 (rhoL [(38, W38a (f38a k))]) jpId k K x0 x1 n s0_3 s0_8 = L19al0 k (fun y0 y1 y2 => K (.ok (AV.tup [(AV.agg [(ai (0 : Int)), (AV.lst 97 y0 vw), (ai y1)]), (ai y2)]) [])) x0 x1 n s0_3 s0_8 := by
  intro n
  induction n generalizing x0 x1 with
  | zero => intro s0_3 s0_8; kernel_rfl
  | succ n ih =>
    intro s0_3 s0_8
    rw [step19al0 (f38a k) jpId k K]
    simp only [ih]
    kernel_rfl
theorem run19a (c38a : Int → LR → Int → (Bool → OR) → OR) (jp : JP) (k : Nat) (K : Res → OR) (x0 : LR) (x1 : LR) : runF Tryz.prog Gl (rhoL [(38, W38a c38a)]) (loopN k) jp Tryz.f19 [(AV.lst 9 x0 vw), (AV.lst 3 x1 vw)] [] K = T19a (fun x0 x1 s0_3 s0_8 => R19al0 (rhoL [(38, W38a c38a)]) jp k K x0 x1 k s0_3 s0_8) (fun y0 y1 y2 => K (.ok (AV.tup [(AV.agg [(ai (0 : Int)), (AV.lst 97 y0 vw), (ai y1)]), (ai y2)]) [])) x0 x1 := by kernel_rfl
theorem ok19a (k : Nat) : SpecOK Tryz.prog Gl (W19a (f19a k)) 19 :=
  mk_ok' (ρ := (rhoL [(38, W38a (f38a k))])) (rhoL_ok (forall_cons (ok38a k) forall_nil)) Tryz_mixed (g := 19) (fn := Tryz.f19) (by kernel_rfl) (by kernel_rfl) k fun h h' K => (run19a (f38a k) jpId k K (hR (lget h 0 .no)) (hR (lget h 1 .no))).trans (by simp only [loop19al0 k K]; rfl)
end Go.AI

set_option linter.unusedVariables false
set_option linter.unusedSimpArgs false
set_option maxRecDepth 100000
namespace Go.AI
open Go.Proofs
noncomputable def h6a_0 (x0 : Int) (y1 : LR) (y2 : Int) : List AV :=
  (rget (((ai (6 : Int)) :: ((AV.s ([] : LB)) :: ((ai (0 : Int)) :: ((ai (0 : Int)) :: ((AV.lst 61 [] vw) :: ((AV.lst 63 [] vw) :: ((AV.s ([] : LB)) :: ((AV.s ([] : LB)) :: ((AV.s ([] : LB)) :: ((ai (0 : Int)) :: ((ai (0 : Int)) :: ((AV.lst 97 [] vw) :: ((ai (0 : Int)) :: ((ai (0 : Int)) :: ((AV.lst 59 [] vw) :: ((AV.s ([] : LB)) :: ((ai (0 : Int)) :: ((ai (0 : Int)) :: ((ai (0 : Int)) :: ((ai (0 : Int)) :: [])))))))))))))))))))) :: (((ai (1 : Int)) :: ((AV.s ([] : LB)) :: ((ai (0 : Int)) :: ((ai (0 : Int)) :: ((AV.lst 61 [] vw) :: ((AV.lst 63 [] vw) :: ((AV.s ([112] : LB)) :: ((AV.s ([] : LB)) :: ((AV.s ([] : LB)) :: ((ai (0 : Int)) :: ((ai (0 : Int)) :: ((AV.lst 97 [] vw) :: ((ai (0 : Int)) :: ((ai (0 : Int)) :: ((AV.lst 59 [] vw) :: ((AV.s ([] : LB)) :: ((ai (0 : Int)) :: ((ai (0 : Int)) :: ((ai (0 : Int)) :: ((ai (0 : Int)) :: [])))))))))))))))))))) :: (((ai (2 : Int)) :: ((AV.s ([] : LB)) :: ((ai (0 : Int)) :: ((ai (0 : Int)) :: ((AV.lst 61 [] vw) :: ((AV.lst 63 [] vw) :: ((AV.s ([] : LB)) :: ((AV.s ([109] : LB)) :: ((AV.s ([102] : LB)) :: ((ai (1 : Int)) :: ((ai (0 : Int)) :: ((AV.lst 97 [] vw) :: ((ai (0 : Int)) :: ((ai (0 : Int)) :: ((AV.lst 59 [] vw) :: ((AV.s ([] : LB)) :: ((ai (0 : Int)) :: ((ai (0 : Int)) :: ((ai (0 : Int)) :: ((ai (0 : Int)) :: [])))))))))))))))))))) :: (((ai (3 : Int)) :: ((AV.s ([] : LB)) :: ((ai (0 : Int)) :: ((ai (0 : Int)) :: ((AV.lst 61 [] vw) :: ((AV.lst 63 [] vw) :: ((AV.s ([] : LB)) :: ((AV.s ([] : LB)) :: ((AV.s ([] : LB)) :: ((ai (0 : Int)) :: ((ai (0 : Int)) :: ((AV.lst 97 y1 vw) :: ((ai y2) :: ((ai (0 : Int)) :: ((AV.lst 59 [] vw) :: ((AV.s ([] : LB)) :: ((ai (0 : Int)) :: ((ai (0 : Int)) :: ((ai (0 : Int)) :: ((ai (0 : Int)) :: [])))))))))))))))))))) :: (((ai (4 : Int)) :: ((AV.s ([] : LB)) :: ((ai (0 : Int)) :: ((ai (0 : Int)) :: ((AV.lst 61 [] vw) :: ((AV.lst 63 [] vw) :: ((AV.s ([] : LB)) :: ((AV.s ([] : LB)) :: ((AV.s ([] : LB)) :: ((ai (0 : Int)) :: ((ai (0 : Int)) :: ((AV.lst 97 [] vw) :: ((ai (0 : Int)) :: ((ai (0 : Int)) :: ((AV.lst 59 [] vw) :: ((AV.s ([] : LB)) :: ((ai (0 : Int)) :: ((ai (0 : Int)) :: ((ai (0 : Int)) :: ((ai (0 : Int)) :: [])))))))))))))))))))) :: (((ai (5 : Int)) :: ((AV.s ([] : LB)) :: ((ai (0 : Int)) :: ((ai (0 : Int)) :: ((AV.lst 61 [] vw) :: ((AV.lst 63 [] vw) :: ((AV.s ([] : LB)) :: ((AV.s ([] : LB)) :: ((AV.s ([] : LB)) :: ((ai (0 : Int)) :: ((ai (0 : Int)) :: ((AV.lst 97 [] vw) :: ((ai (0 : Int)) :: ((ai (0 : Int)) :: ((AV.lst 59 [] vw) :: ((AV.s ([116] : LB)) :: ((ai (0 : Int)) :: ((ai (0 : Int)) :: ((ai (0 : Int)) :: ((ai (0 : Int)) :: [])))))))))))))))))))) :: (((ai (0 : Int)) :: ((AV.s ([112] : LB)) :: ((ai (0 : Int)) :: ((ai (0 : Int)) :: ((AV.lst 61 [] vw) :: ((AV.lst 63 [] vw) :: ((AV.s ([] : LB)) :: ((AV.s ([] : LB)) :: ((AV.s ([] : LB)) :: ((ai (0 : Int)) :: ((ai (0 : Int)) :: ((AV.lst 97 [] vw) :: ((ai (0 : Int)) :: ((ai (0 : Int)) :: ((AV.lst 59 [] vw) :: ((AV.s ([] : LB)) :: ((ai (0 : Int)) :: ((ai (0 : Int)) :: ((ai (0 : Int)) :: ((ai (0 : Int)) :: [])))))))))))))))))))) :: []))))))) (wcv i6 (wrem (wcv IntKind.u64 x0) (7 : Int))))
noncomputable def T6aj10 {α : Type} (c11a : LR → (LB → Int → Option α) → Option α) (c9a : Int → LB → Int → Int → LR → LR → LB → LB → LB → Int → Int → LR → Int → Int → LR → LB → Int → Int → Int → Int → (Bool → Option α) → Option α) (c15a : Int → (Option α) → Option α) (K : (Bool → Option α)) (y1 : LR) (y2 : Int) (y4 : Bool) (t10_0 : Bool) (t10_1 : Int) (t10_3 : Int) (t10_7 : Int) (t10_8 : LB) (t10_9 : Int) (t10_10 : Int) (t10_11 : LR) (t10_12 : LR) (t10_13 : LB) (t10_14 : LB) (t10_15 : LB) (t10_16 : Int) (t10_17 : Int) (t10_18 : LR) (t10_19 : Int) (t10_20 : Int) (t10_21 : LR) (t10_22 : LB) (t10_23 : Int) (t10_24 : Int) (t10_25 : Int) (t10_26 : Int) : Option α :=
  (c11a (((ai t10_7) :: ((AV.s t10_8) :: ((ai t10_9) :: ((ai t10_10) :: ((AV.lst 61 t10_11 vw) :: ((AV.lst 63 t10_12 vw) :: ((AV.s t10_13) :: ((AV.s t10_14) :: ((AV.s t10_15) :: ((ai t10_16) :: ((ai t10_17) :: ((AV.lst 97 t10_18 vw) :: ((ai t10_19) :: ((ai t10_20) :: ((AV.lst 59 t10_21 vw) :: ((AV.s t10_22) :: ((ai t10_23) :: ((ai t10_24) :: ((ai t10_25) :: ((ai t10_26) :: [])))))))))))))))))))) :: []) (fun y5 y6 => (bif y4 then (c9a t10_7 t10_8 t10_9 t10_10 t10_11 t10_12 t10_13 t10_14 t10_15 t10_16 t10_17 t10_18 t10_19 t10_20 t10_21 t10_22 t10_23 t10_24 t10_25 t10_26 (fun y7 => (bif (beqB y7 (ieq t10_1 t10_3)) then (c15a y6 (K (beqB (ieq y6 (0 : Int)) (ieq t10_1 t10_3)))) else (K false)))) else (K false))))
noncomputable def T6a {α : Type} (c18a : (Bool → Option α) → Option α) (c19a : LR → LR → (LR → Int → Int → Option α) → Option α) (c9a : Int → LB → Int → Int → LR → LR → LB → LB → LB → Int → Int → LR → Int → Int → LR → LB → Int → Int → Int → Int → (Bool → Option α) → Option α) (j10 : LR → Int → Bool → Bool → Int → Int → Int → LB → Int → Int → LR → LR → LB → LB → LB → Int → Int → LR → Int → Int → LR → LB → Int → Int → Int → Int → Option α) (K : (Bool → Option α)) (x0 : Int) (x1 : Int) : Option α :=
  (c18a (fun y0 => (bif (Bool.not y0) then (K false) else (c19a (((AV.s ([113] : LB)) :: []) :: []) (((ai (2 : Int)) :: []) :: []) (fun y1 y2 y3 => (bif (ile (0 : Int) (wcv i6 (wrem (wcv IntKind.u64 x0) (7 : Int)))) then (bif (ilt (wcv i6 (wrem (wcv IntKind.u64 x0) (7 : Int))) (7 : Int)) then (c9a (toI (lget (h6a_0 x0 y1 y2) 0 uk)) (toS (lget (h6a_0 x0 y1 y2) 1 uk)) (toI (lget (h6a_0 x0 y1 y2) 2 uk)) (toI (lget (h6a_0 x0 y1 y2) 3 uk)) (toR (lget (h6a_0 x0 y1 y2) 4 uk)) (toR (lget (h6a_0 x0 y1 y2) 5 uk)) (toS (lget (h6a_0 x0 y1 y2) 6 uk)) (toS (lget (h6a_0 x0 y1 y2) 7 uk)) (toS (lget (h6a_0 x0 y1 y2) 8 uk)) (toI (lget (h6a_0 x0 y1 y2) 9 uk)) (toI (lget (h6a_0 x0 y1 y2) 10 uk)) (toR (lget (h6a_0 x0 y1 y2) 11 uk)) (toI (lget (h6a_0 x0 y1 y2) 12 uk)) (toI (lget (h6a_0 x0 y1 y2) 13 uk)) (toR (lget (h6a_0 x0 y1 y2) 14 uk)) (toS (lget (h6a_0 x0 y1 y2) 15 uk)) (toI (lget (h6a_0 x0 y1 y2) 16 uk)) (toI (lget (h6a_0 x0 y1 y2) 17 uk)) (toI (lget (h6a_0 x0 y1 y2) 18 uk)) (toI (lget (h6a_0 x0 y1 y2) 19 uk)) (fun y4 => (bif (ieq (wrem (wcv IntKind.u64 x1) (6 : Int)) (0 : Int)) then (j10 y1 y2 y4 false (wcv i6 (wrem (wcv IntKind.u64 x0) (7 : Int))) (6 : Int) (toI (lget (h6a_0 x0 y1 y2) 0 uk)) (toS (lget (h6a_0 x0 y1 y2) 1 uk)) (1 : Int) (toI (lget (h6a_0 x0 y1 y2) 3 uk)) (toR (lget (h6a_0 x0 y1 y2) 4 uk)) (toR (lget (h6a_0 x0 y1 y2) 5 uk)) (toS (lget (h6a_0 x0 y1 y2) 6 uk)) (toS (lget (h6a_0 x0 y1 y2) 7 uk)) (toS (lget (h6a_0 x0 y1 y2) 8 uk)) (toI (lget (h6a_0 x0 y1 y2) 9 uk)) (toI (lget (h6a_0 x0 y1 y2) 10 uk)) (toR (lget (h6a_0 x0 y1 y2) 11 uk)) (toI (lget (h6a_0 x0 y1 y2) 12 uk)) (toI (lget (h6a_0 x0 y1 y2) 13 uk)) (toR (lget (h6a_0 x0 y1 y2) 14 uk)) (toS (lget (h6a_0 x0 y1 y2) 15 uk)) (toI (lget (h6a_0 x0 y1 y2) 16 uk)) (toI (lget (h6a_0 x0 y1 y2) 17 uk)) (toI (lget (h6a_0 x0 y1 y2) 18 uk)) (toI (lget (h6a_0 x0 y1 y2) 19 uk))) else (bif (ieq (wrem (wcv IntKind.u64 x1) (6 : Int)) (1 : Int)) then (j10 y1 y2 y4 false (wcv i6 (wrem (wcv IntKind.u64 x0) (7 : Int))) (1 : Int) (toI (lget (h6a_0 x0 y1 y2) 0 uk)) (toS (lget (h6a_0 x0 y1 y2) 1 uk)) (toI (lget (h6a_0 x0 y1 y2) 2 uk)) (toI (lget (h6a_0 x0 y1 y2) 3 uk)) (toR (lget (h6a_0 x0 y1 y2) 4 uk)) (toR (lget (h6a_0 x0 y1 y2) 5 uk)) ([112] : LB) (toS (lget (h6a_0 x0 y1 y2) 7 uk)) (toS (lget (h6a_0 x0 y1 y2) 8 uk)) (toI (lget (h6a_0 x0 y1 y2) 9 uk)) (toI (lget (h6a_0 x0 y1 y2) 10 uk)) (toR (lget (h6a_0 x0 y1 y2) 11 uk)) (toI (lget (h6a_0 x0 y1 y2) 12 uk)) (toI (lget (h6a_0 x0 y1 y2) 13 uk)) (toR (lget (h6a_0 x0 y1 y2) 14 uk)) (toS (lget (h6a_0 x0 y1 y2) 15 uk)) (toI (lget (h6a_0 x0 y1 y2) 16 uk)) (toI (lget (h6a_0 x0 y1 y2) 17 uk)) (toI (lget (h6a_0 x0 y1 y2) 18 uk)) (toI (lget (h6a_0 x0 y1 y2) 19 uk))) else (bif (ieq (wrem (wcv IntKind.u64 x1) (6 : Int)) (2 : Int)) then (j10 y1 y2 y4 false (wcv i6 (wrem (wcv IntKind.u64 x0) (7 : Int))) (2 : Int) (toI (lget (h6a_0 x0 y1 y2) 0 uk)) (toS (lget (h6a_0 x0 y1 y2) 1 uk)) (toI (lget (h6a_0 x0 y1 y2) 2 uk)) (toI (lget (h6a_0 x0 y1 y2) 3 uk)) (toR (lget (h6a_0 x0 y1 y2) 4 uk)) (toR (lget (h6a_0 x0 y1 y2) 5 uk)) (toS (lget (h6a_0 x0 y1 y2) 6 uk)) (toS (lget (h6a_0 x0 y1 y2) 7 uk)) (toS (lget (h6a_0 x0 y1 y2) 8 uk)) (2 : Int) (toI (lget (h6a_0 x0 y1 y2) 10 uk)) (toR (lget (h6a_0 x0 y1 y2) 11 uk)) (toI (lget (h6a_0 x0 y1 y2) 12 uk)) (toI (lget (h6a_0 x0 y1 y2) 13 uk)) (toR (lget (h6a_0 x0 y1 y2) 14 uk)) (toS (lget (h6a_0 x0 y1 y2) 15 uk)) (toI (lget (h6a_0 x0 y1 y2) 16 uk)) (toI (lget (h6a_0 x0 y1 y2) 17 uk)) (toI (lget (h6a_0 x0 y1 y2) 18 uk)) (toI (lget (h6a_0 x0 y1 y2) 19 uk))) else (bif (ieq (wrem (wcv IntKind.u64 x1) (6 : Int)) (3 : Int)) then (j10 y1 y2 y4 false (wcv i6 (wrem (wcv IntKind.u64 x0) (7 : Int))) (3 : Int) (toI (lget (h6a_0 x0 y1 y2) 0 uk)) (toS (lget (h6a_0 x0 y1 y2) 1 uk)) (toI (lget (h6a_0 x0 y1 y2) 2 uk)) (toI (lget (h6a_0 x0 y1 y2) 3 uk)) (toR (lget (h6a_0 x0 y1 y2) 4 uk)) (toR (lget (h6a_0 x0 y1 y2) 5 uk)) (toS (lget (h6a_0 x0 y1 y2) 6 uk)) (toS (lget (h6a_0 x0 y1 y2) 7 uk)) (toS (lget (h6a_0 x0 y1 y2) 8 uk)) (toI (lget (h6a_0 x0 y1 y2) 9 uk)) (toI (lget (h6a_0 x0 y1 y2) 10 uk)) (toR (lget (h6a_0 x0 y1 y2) 11 uk)) (9 : Int) (toI (lget (h6a_0 x0 y1 y2) 13 uk)) (toR (lget (h6a_0 x0 y1 y2) 14 uk)) (toS (lget (h6a_0 x0 y1 y2) 15 uk)) (toI (lget (h6a_0 x0 y1 y2) 16 uk)) (toI (lget (h6a_0 x0 y1 y2) 17 uk)) (toI (lget (h6a_0 x0 y1 y2) 18 uk)) (toI (lget (h6a_0 x0 y1 y2) 19 uk))) else (bif (ieq (wrem (wcv IntKind.u64 x1) (6 : Int)) (4 : Int)) then (j10 y1 y2 y4 false (wcv i6 (wrem (wcv IntKind.u64 x0) (7 : Int))) (5 : Int) (toI (lget (h6a_0 x0 y1 y2) 0 uk)) (toS (lget (h6a_0 x0 y1 y2) 1 uk)) (toI (lget (h6a_0 x0 y1 y2) 2 uk)) (toI (lget (h6a_0 x0 y1 y2) 3 uk)) (toR (lget (h6a_0 x0 y1 y2) 4 uk)) (toR (lget (h6a_0 x0 y1 y2) 5 uk)) (toS (lget (h6a_0 x0 y1 y2) 6 uk)) (toS (lget (h6a_0 x0 y1 y2) 7 uk)) (toS (lget (h6a_0 x0 y1 y2) 8 uk)) (toI (lget (h6a_0 x0 y1 y2) 9 uk)) (toI (lget (h6a_0 x0 y1 y2) 10 uk)) (toR (lget (h6a_0 x0 y1 y2) 11 uk)) (toI (lget (h6a_0 x0 y1 y2) 12 uk)) (toI (lget (h6a_0 x0 y1 y2) 13 uk)) (toR (lget (h6a_0 x0 y1 y2) 14 uk)) ([117] : LB) (toI (lget (h6a_0 x0 y1 y2) 16 uk)) (toI (lget (h6a_0 x0 y1 y2) 17 uk)) (toI (lget (h6a_0 x0 y1 y2) 18 uk)) (toI (lget (h6a_0 x0 y1 y2) 19 uk))) else (j10 y1 y2 y4 false (wcv i6 (wrem (wcv IntKind.u64 x0) (7 : Int))) (0 : Int) (toI (lget (h6a_0 x0 y1 y2) 0 uk)) (toS (lget (h6a_0 x0 y1 y2) 1 uk)) (toI (lget (h6a_0 x0 y1 y2) 2 uk)) (toI (lget (h6a_0 x0 y1 y2) 3 uk)) (toR (lget (h6a_0 x0 y1 y2) 4 uk)) (toR (lget (h6a_0 x0 y1 y2) 5 uk)) (toS (lget (h6a_0 x0 y1 y2) 6 uk)) (toS (lget (h6a_0 x0 y1 y2) 7 uk)) (toS (lget (h6a_0 x0 y1 y2) 8 uk)) (toI (lget (h6a_0 x0 y1 y2) 9 uk)) (toI (lget (h6a_0 x0 y1 y2) 10 uk)) (toR (lget (h6a_0 x0 y1 y2) 11 uk)) (toI (lget (h6a_0 x0 y1 y2) 12 uk)) (toI (lget (h6a_0 x0 y1 y2) 13 uk)) (toR (lget (h6a_0 x0 y1 y2) 14 uk)) (toS (lget (h6a_0 x0 y1 y2) 15 uk)) (toI (lget (h6a_0 x0 y1 y2) 16 uk)) (toI (lget (h6a_0 x0 y1 y2) 17 uk)) (toI (lget (h6a_0 x0 y1 y2) 18 uk)) (4 : Int))))))))) else none) else none))))))
noncomputable def L6aj10 {α : Type} (k : Nat) (K : (Bool → Option α)) (y1 : LR) (y2 : Int) (y4 : Bool) (t10_0 : Bool) (t10_1 : Int) (t10_3 : Int) (t10_7 : Int) (t10_8 : LB) (t10_9 : Int) (t10_10 : Int) (t10_11 : LR) (t10_12 : LR) (t10_13 : LB) (t10_14 : LB) (t10_15 : LB) (t10_16 : Int) (t10_17 : Int) (t10_18 : LR) (t10_19 : Int) (t10_20 : Int) (t10_21 : LR) (t10_22 : LB) (t10_23 : Int) (t10_24 : Int) (t10_25 : Int) (t10_26 : Int) : Option α := T6aj10 (f11a k) (f9a k) (f15a k) K y1 y2 y4 t10_0 t10_1 t10_3 t10_7 t10_8 t10_9 t10_10 t10_11 t10_12 t10_13 t10_14 t10_15 t10_16 t10_17 t10_18 t10_19 t10_20 t10_21 t10_22 t10_23 t10_24 t10_25 t10_26
noncomputable def f6a {α : Type} (k : Nat) (x0 : Int) (x1 : Int) (K : (Bool → Option α)) : Option α := T6a (f18a k) (f19a k) (f9a k) (fun y1 y2 y4 t10_0 t10_1 t10_3 t10_7 t10_8 t10_9 t10_10 t10_11 t10_12 t10_13 t10_14 t10_15 t10_16 t10_17 t10_18 t10_19 t10_20 t10_21 t10_22 t10_23 t10_24 t10_25 t10_26 => (L6aj10 k K y1 y2 y4) t10_0 t10_1 t10_3 t10_7 t10_8 t10_9 t10_10 t10_11 t10_12 t10_13 t10_14 t10_15 t10_16 t10_17 t10_18 t10_19 t10_20 t10_21 t10_22 t10_23 t10_24 t10_25 t10_26) K x0 x1
noncomputable def W6a (F : Int → Int → (Bool → OR) → OR) : Spec := mkSpec [(.c (.i i6)), (.c (.i i6))] [] fun h h' K => F (hI (lget h 0 .no)) (hI (lget h 1 .no)) (fun y0 => K (.ok (AV.b y0) []))
noncomputable def R6aj10 (ρ : FuncId → Fn) (jp : JP) (k : Nat) (K : Res → OR) (y1 : LR) (y2 : Int) (y4 : Bool) (t10_0 : Bool) (t10_1 : Int) (t10_3 : Int) (t10_7 : Int) (t10_8 : LB) (t10_9 : Int) (t10_10 : Int) (t10_11 : LR) (t10_12 : LR) (t10_13 : LB) (t10_14 : LB) (t10_15 : LB) (t10_16 : Int) (t10_17 : Int) (t10_18 : LR) (t10_19 : Int) (t10_20 : Int) (t10_21 : LR) (t10_22 : LB) (t10_23 : Int) (t10_24 : Int) (t10_25 : Int) (t10_26 : Int) : OR :=
  atJoin Tryz.prog Gl ρ (loopN k) jp Tryz.f6 0 K [1, 1, 1, 1, 1, 1, 1, 1] [] 74 [uk, uk, uk, uk, (AV.b t10_0), uk, uk, uk, (ai t10_1), (AV.ptr 34 0), (AV.b y4), (ai t10_3), uk, uk, uk, uk, uk, uk, uk, uk, uk, uk, uk, uk, uk, uk, uk, uk, uk, uk, uk, uk, uk, uk, uk, uk, uk, uk, uk, uk, uk, uk, uk, uk, uk, uk, uk, uk, uk, uk, uk, uk, uk, uk, uk, uk, uk, uk, uk, uk, uk, uk, uk, uk, uk, uk, uk, uk, uk, uk, uk, uk, uk, uk, uk, uk, uk, uk, uk, uk, uk, uk, uk, uk, uk, uk, uk, uk, uk] [(Prod.mk 10 (AObj.box [(ai (0 : Int)), (AV.lst 97 y1 vw), (ai y2)])), (Prod.mk 34 (AObj.box [(ai t10_7), (AV.s t10_8), (ai t10_9), (ai t10_10), (AV.lst 61 t10_11 vw), (AV.lst 63 t10_12 vw), (AV.s t10_13), (AV.s t10_14), (AV.s t10_15), (ai t10_16), (ai t10_17), (AV.lst 97 t10_18 vw), (ai t10_19), (ai t10_20), (AV.lst 59 t10_21 vw), (AV.s t10_22), (ai t10_23), (ai t10_24), (ai t10_25), (ai t10_26)]))] []
noncomputable def RR6aj10 (ρ : FuncId → Fn) (jp : JP) (k : Nat) (K : Res → OR) (y1 : LR) (y2 : Int) (y4 : Bool) (t10_0 : Bool) (t10_1 : Int) (t10_3 : Int) (t10_7 : Int) (t10_8 : LB) (t10_9 : Int) (t10_10 : Int) (t10_11 : LR) (t10_12 : LR) (t10_13 : LB) (t10_14 : LB) (t10_15 : LB) (t10_16 : Int) (t10_17 : Int) (t10_18 : LR) (t10_19 : Int) (t10_20 : Int) (t10_21 : LR) (t10_22 : LB) (t10_23 : Int) (t10_24 : Int) (t10_25 : Int) (t10_26 : Int) : OR :=
  atRest Tryz.prog Gl ρ (loopN k) jp Tryz.f6 0 K [1, 1, 1, 1, 1, 1, 1, 1] [] 74 [uk, uk, uk, uk, (AV.b t10_0), uk, uk, uk, (ai t10_1), (AV.ptr 34 0), (AV.b y4), (ai t10_3), uk, uk, uk, uk, uk, uk, uk, uk, uk, uk, uk, uk, uk, uk, uk, uk, uk, uk, uk, uk, uk, uk, uk, uk, uk, uk, uk, uk, uk, uk, uk, uk, uk, uk, uk, uk, uk, uk, uk, uk, uk, uk, uk, uk, uk, uk, uk, uk, uk, uk, uk, uk, uk, uk, uk, uk, uk, uk, uk, uk, uk, uk, uk, uk, uk, uk, uk, uk, uk, uk, uk, uk, uk, uk, uk, uk, uk] [(Prod.mk 10 (AObj.box [(ai (0 : Int)), (AV.lst 97 y1 vw), (ai y2)])), (Prod.mk 34 (AObj.box [(ai t10_7), (AV.s t10_8), (ai t10_9), (ai t10_10), (AV.lst 61 t10_11 vw), (AV.lst 63 t10_12 vw), (AV.s t10_13), (AV.s t10_14), (AV.s t10_15), (ai t10_16), (ai t10_17), (AV.lst 97 t10_18 vw), (ai t10_19), (ai t10_20), (AV.lst 59 t10_21 vw), (AV.s t10_22), (ai t10_23), (ai t10_24), (ai t10_25), (ai t10_26)]))] []
theorem step6aj10 (c18a : (Bool → OR) → OR) (c19a : LR → LR → (LR → Int → Int → OR) → OR) (c9a : Int → LB → Int → Int → LR → LR → LB → LB → LB → Int → Int → LR → Int → Int → LR → LB → Int → Int → Int → Int → (Bool → OR) → OR) (c11a : LR → (LB → Int → OR) → OR) (c15a : Int → (OR) → OR) (jp : JP) (k : Nat) (K : Res → OR) (y1 : LR) (y2 : Int) (y4 : Bool) (t10_0 : Bool) (t10_1 : Int) (t10_3 : Int) (t10_7 : Int) (t10_8 : LB) (t10_9 : Int) (t10_10 : Int) (t10_11 : LR) (t10_12 : LR) (t10_13 : LB) (t10_14 : LB) (t10_15 : LB) (t10_16 : Int) (t10_17 : Int) (t10_18 : LR) (t10_19 : Int) (t10_20 : Int) (t10_21 : LR) (t10_22 : LB) (t10_23 : Int) (t10_24 : Int) (t10_25 : Int) (t10_26 : Int) : RR6aj10 (rhoL [(18, W18a c18a), (19, W19a c19a), (9, W9a c9a), (11, W11a c11a), (15, W15a c15a)]) jp k K y1 y2 y4 t10_0 t10_1 t10_3 t10_7 t10_8 t10_9 t10_10 t10_11 t10_12 t10_13 t10_14 t10_15 t10_16 t10_17 t10_18 t10_19 t10_20 t10_21 t10_22 t10_23 t10_24 t10_25 t10_26 = T6aj10 c11a c9a c15a (fun y0 => K (.ok (AV.b y0) [])) y1 y2 y4 t10_0 t10_1 t10_3 t10_7 t10_8 t10_9 t10_10 t10_11 t10_12 t10_13 t10_14 t10_15 t10_16 t10_17 t10_18 t10_19 t10_20 t10_21 t10_22 t10_23 t10_24 t10_25 t10_26 := by kernel_rfl
theorem loop6aj10 (k : Nat) (K : Res → OR) (y1 : LR) (y2 : Int) (y4 : Bool) (t10_0 : Bool) (t10_1 : Int) (t10_3 : Int) (t10_7 : Int) (t10_8 : LB) (t10_9 : Int) (t10_10 : Int) (t10_11 : LR) (t10_12 : LR) (t10_13 : LB) (t10_14 : LB) (t10_15 : LB) (t10_16 : Int) (t10_17 : Int) (t10_18 : LR) (t10_19 : Int) (t10_20 : Int) (t10_21 : LR) (t10_22 : LB) (t10_23 : Int) (t10_24 : Int) (t10_25 : Int) (t10_26 : Int) : R6aj10 (rhoL [(18, W18a (f18a k)), (19, W19a (f19a k)), (9, W9a (f9a k)), (11, W11a (f11a k)), (15, W15a (f15a k))]) jpId k K y1 y2 y4 t10_0 t10_1 t10_3 t10_7 t10_8 t10_9 t10_10 t10_11 t10_12 t10_13 t10_14 t10_15 t10_16 t10_17 t10_18 t10_19 t10_20 t10_21 t10_22 t10_23 t10_24 t10_25 t10_26 = L6aj10 k (fun y0 => K (.ok (AV.b y0) [])) y1 y2 y4 t10_0 t10_1 t10_3 t10_7 t10_8 t10_9 t10_10 t10_11 t10_12 t10_13 t10_14 t10_15 t10_16 t10_17 t10_18 t10_19 t10_20 t10_21 t10_22 t10_23 t10_24 t10_25 t10_26 :=
  (atJoin_id (P := Tryz.prog)).trans ((step6aj10 (f18a k) (f19a k) (f9a k) (f11a k) (f15a k) jpId k K y1 y2 y4 t10_0 t10_1 t10_3 t10_7 t10_8 t10_9 t10_10 t10_11 t10_12 t10_13 t10_14 t10_15 t10_16 t10_17 t10_18 t10_19 t10_20 t10_21 t10_22 t10_23 t10_24 t10_25 t10_26).trans (by first | (unfold L6aj10; with_reducible rfl) | (unfold L6aj10 T6aj10; with_reducible rfl) | kernel_rfl))
theorem run6a (c18a : (Bool → OR) → OR) (c19a : LR → LR → (LR → Int → Int → OR) → OR) (c9a : Int → LB → Int → Int → LR → LR → LB → LB → LB → Int → Int → LR → Int → Int → LR → LB → Int → Int → Int → Int → (Bool → OR) → OR) (c11a : LR → (LB → Int → OR) → OR) (c15a : Int → (OR) → OR) (jp : JP) (k : Nat) (K : Res → OR) (x0 : Int) (x1 : Int) : runF Tryz.prog Gl (rhoL [(18, W18a c18a), (19, W19a c19a), (9, W9a c9a), (11, W11a c11a), (15, W15a c15a)]) (loopN k) jp Tryz.f6 [(ai x0), (ai x1)] [] K = T6a c18a c19a c9a (fun y1 y2 y4 t10_0 t10_1 t10_3 t10_7 t10_8 t10_9 t10_10 t10_11 t10_12 t10_13 t10_14 t10_15 t10_16 t10_17 t10_18 t10_19 t10_20 t10_21 t10_22 t10_23 t10_24 t10_25 t10_26 => R6aj10 (rhoL [(18, W18a c18a), (19, W19a c19a), (9, W9a c9a), (11, W11a c11a), (15, W15a c15a)]) jp k K y1 y2 y4 t10_0 t10_1 t10_3 t10_7 t10_8 t10_9 t10_10 t10_11 t10_12 t10_13 t10_14 t10_15 t10_16 t10_17 t10_18 t10_19 t10_20 t10_21 t10_22 t10_23 t10_24 t10_25 t10_26) (fun y0 => K (.ok (AV.b y0) [])) x0 x1 := by kernel_rfl
theorem ok6a (k : Nat) : SpecOK Tryz.prog Gl (W6a (f6a k)) 6 :=
  mk_ok' (ρ := (rhoL [(18, W18a (f18a k)), (19, W19a (f19a k)), (9, W9a (f9a k)), (11, W11a (f11a k)), (15, W15a (f15a k))])) (rhoL_ok (forall_cons (ok18a k) (forall_cons (ok19a k) (forall_cons (ok9a k) (forall_cons (ok11a k) (forall_cons (ok15a k) forall_nil)))))) Tryz_mixed (g := 6) (fn := Tryz.f6) (by kernel_rfl) (by kernel_rfl) k fun h h' K => (run6a (f18a k) (f19a k) (f9a k) (f11a k) (f15a k) jpId k K (hI (lget h 0 .no)) (hI (lget h 1 .no))).trans (by simp only [loop6aj10 k K]; rfl)
end Go.AI

/-
  ActionZeros: what the printed function answers. Two numbers, one mod 7, one mod 6: 42 cases, each reckoned by the kernel.
-/
set_option maxRecDepth 100000
namespace Go.AI
theorem wnonneg (a : Int) : 0 ≤ wcv .u64 a := by simp only [wcv, IntKind.wrap, IntKind.signed, IntKind.bits]; simp; omega
theorem wmod7 (a : Int) : ∃ m : Fin 7, wrem (wcv .u64 a) 7 = (m.1 : Int) := by
  have h0 := wnonneg a
  refine ⟨⟨(wrem (wcv .u64 a) 7).toNat, ?_⟩, ?_⟩
  · have := Int.tmod_lt_of_pos (wcv .u64 a) (show (0 : Int) < 7 by decide)
    simp only [wrem]; omega
  · have := Int.tmod_nonneg (7 : Int) h0
    simp only [wrem]; omega
theorem wmod6 (a : Int) : ∃ m : Fin 6, wrem (wcv .u64 a) 6 = (m.1 : Int) := by
  have h0 := wnonneg a
  refine ⟨⟨(wrem (wcv .u64 a) 6).toNat, ?_⟩, ?_⟩
  · have := Int.tmod_lt_of_pos (wcv .u64 a) (show (0 : Int) < 6 by decide)
    simp only [wrem]; omega
  · have := Int.tmod_nonneg (6 : Int) h0
    simp only [wrem]; omega
theorem self7 : ∀ m : Fin 7, wrem (wcv .u64 (m.1 : Int)) 7 = (m.1 : Int) := by decide +kernel
theorem self6 : ∀ m : Fin 6, wrem (wcv .u64 (m.1 : Int)) 6 = (m.1 : Int) := by decide +kernel
theorem f6_cong {k : Nat} {x0 x1 y0 y1 : Int} {K : Bool → Option Res} (h0 : wrem (wcv .u64 x0) 7 = wrem (wcv .u64 y0) 7) (h1 : wrem (wcv .u64 x1) 6 = wrem (wcv .u64 y1) 6) : f6a k x0 x1 K = f6a k y0 y1 K := by
  unfold f6a T6a
  simp only [h6a_0]
  rw [h0, h1]
theorem awake (K : Bool → Option Res) : f18a 300 K = K true := by kernel_rfl
abbrev KB : Bool → Option Res := fun b => some (.ok (.b b) [])
theorem z00 : f6a 300 0 0 KB = some (.ok (.b true) []) := by kernel_rfl
theorem z01 : f6a 300 0 1 KB = some (.ok (.b true) []) := by kernel_rfl
theorem z02 : f6a 300 0 2 KB = some (.ok (.b true) []) := by kernel_rfl
theorem z03 : f6a 300 0 3 KB = some (.ok (.b true) []) := by kernel_rfl
theorem z04 : f6a 300 0 4 KB = some (.ok (.b true) []) := by kernel_rfl
theorem z05 : f6a 300 0 5 KB = some (.ok (.b true) []) := by kernel_rfl
theorem z10 : f6a 300 1 0 KB = some (.ok (.b true) []) := by kernel_rfl
theorem z11 : f6a 300 1 1 KB = some (.ok (.b true) []) := by kernel_rfl
theorem z12 : f6a 300 1 2 KB = some (.ok (.b true) []) := by kernel_rfl
theorem z13 : f6a 300 1 3 KB = some (.ok (.b true) []) := by kernel_rfl
theorem z14 : f6a 300 1 4 KB = some (.ok (.b true) []) := by kernel_rfl
theorem z15 : f6a 300 1 5 KB = some (.ok (.b true) []) := by kernel_rfl
theorem z20 : f6a 300 2 0 KB = some (.ok (.b true) []) := by kernel_rfl
theorem z21 : f6a 300 2 1 KB = some (.ok (.b true) []) := by kernel_rfl
theorem z22 : f6a 300 2 2 KB = some (.ok (.b true) []) := by kernel_rfl
theorem z23 : f6a 300 2 3 KB = some (.ok (.b true) []) := by kernel_rfl
theorem z24 : f6a 300 2 4 KB = some (.ok (.b true) []) := by kernel_rfl
theorem z25 : f6a 300 2 5 KB = some (.ok (.b true) []) := by kernel_rfl
theorem z30 : f6a 300 3 0 KB = some (.ok (.b true) []) := by kernel_rfl
theorem z31 : f6a 300 3 1 KB = some (.ok (.b true) []) := by kernel_rfl
theorem z32 : f6a 300 3 2 KB = some (.ok (.b true) []) := by kernel_rfl
theorem z33 : f6a 300 3 3 KB = some (.ok (.b true) []) := by kernel_rfl
theorem z34 : f6a 300 3 4 KB = some (.ok (.b true) []) := by kernel_rfl
theorem z35 : f6a 300 3 5 KB = some (.ok (.b true) []) := by kernel_rfl
theorem z40 : f6a 300 4 0 KB = some (.ok (.b true) []) := by kernel_rfl
theorem z41 : f6a 300 4 1 KB = some (.ok (.b true) []) := by kernel_rfl
theorem z42 : f6a 300 4 2 KB = some (.ok (.b true) []) := by kernel_rfl
theorem z43 : f6a 300 4 3 KB = some (.ok (.b true) []) := by kernel_rfl
theorem z44 : f6a 300 4 4 KB = some (.ok (.b true) []) := by kernel_rfl
theorem z45 : f6a 300 4 5 KB = some (.ok (.b true) []) := by kernel_rfl
theorem z50 : f6a 300 5 0 KB = some (.ok (.b true) []) := by kernel_rfl
theorem z51 : f6a 300 5 1 KB = some (.ok (.b true) []) := by kernel_rfl
theorem z52 : f6a 300 5 2 KB = some (.ok (.b true) []) := by kernel_rfl
theorem z53 : f6a 300 5 3 KB = some (.ok (.b true) []) := by kernel_rfl
theorem z54 : f6a 300 5 4 KB = some (.ok (.b true) []) := by kernel_rfl
theorem z55 : f6a 300 5 5 KB = some (.ok (.b true) []) := by kernel_rfl
theorem z60 : f6a 300 6 0 KB = some (.ok (.b true) []) := by kernel_rfl
theorem z61 : f6a 300 6 1 KB = some (.ok (.b true) []) := by kernel_rfl
theorem z62 : f6a 300 6 2 KB = some (.ok (.b true) []) := by kernel_rfl
theorem z63 : f6a 300 6 3 KB = some (.ok (.b true) []) := by kernel_rfl
theorem z64 : f6a 300 6 4 KB = some (.ok (.b true) []) := by kernel_rfl
theorem z65 : f6a 300 6 5 KB = some (.ok (.b true) []) := by kernel_rfl
theorem zcase : ∀ (m : Fin 7) (n : Fin 6), f6a 300 (m.1 : Int) (n.1 : Int) KB = some (.ok (.b true) [])
  | ⟨0, _⟩, ⟨0, _⟩ => z00
  | ⟨0, _⟩, ⟨1, _⟩ => z01
  | ⟨0, _⟩, ⟨2, _⟩ => z02
  | ⟨0, _⟩, ⟨3, _⟩ => z03
  | ⟨0, _⟩, ⟨4, _⟩ => z04
  | ⟨0, _⟩, ⟨5, _⟩ => z05
  | ⟨1, _⟩, ⟨0, _⟩ => z10
  | ⟨1, _⟩, ⟨1, _⟩ => z11
  | ⟨1, _⟩, ⟨2, _⟩ => z12
  | ⟨1, _⟩, ⟨3, _⟩ => z13
  | ⟨1, _⟩, ⟨4, _⟩ => z14
  | ⟨1, _⟩, ⟨5, _⟩ => z15
  | ⟨2, _⟩, ⟨0, _⟩ => z20
  | ⟨2, _⟩, ⟨1, _⟩ => z21
  | ⟨2, _⟩, ⟨2, _⟩ => z22
  | ⟨2, _⟩, ⟨3, _⟩ => z23
  | ⟨2, _⟩, ⟨4, _⟩ => z24
  | ⟨2, _⟩, ⟨5, _⟩ => z25
  | ⟨3, _⟩, ⟨0, _⟩ => z30
  | ⟨3, _⟩, ⟨1, _⟩ => z31
  | ⟨3, _⟩, ⟨2, _⟩ => z32
  | ⟨3, _⟩, ⟨3, _⟩ => z33
  | ⟨3, _⟩, ⟨4, _⟩ => z34
  | ⟨3, _⟩, ⟨5, _⟩ => z35
  | ⟨4, _⟩, ⟨0, _⟩ => z40
  | ⟨4, _⟩, ⟨1, _⟩ => z41
  | ⟨4, _⟩, ⟨2, _⟩ => z42
  | ⟨4, _⟩, ⟨3, _⟩ => z43
  | ⟨4, _⟩, ⟨4, _⟩ => z44
  | ⟨4, _⟩, ⟨5, _⟩ => z45
  | ⟨5, _⟩, ⟨0, _⟩ => z50
  | ⟨5, _⟩, ⟨1, _⟩ => z51
  | ⟨5, _⟩, ⟨2, _⟩ => z52
  | ⟨5, _⟩, ⟨3, _⟩ => z53
  | ⟨5, _⟩, ⟨4, _⟩ => z54
  | ⟨5, _⟩, ⟨5, _⟩ => z55
  | ⟨6, _⟩, ⟨0, _⟩ => z60
  | ⟨6, _⟩, ⟨1, _⟩ => z61
  | ⟨6, _⟩, ⟨2, _⟩ => z62
  | ⟨6, _⟩, ⟨3, _⟩ => z63
  | ⟨6, _⟩, ⟨4, _⟩ => z64
  | ⟨6, _⟩, ⟨5, _⟩ => z65
theorem zeros_true (a b : Int) : f6a 300 a b KB = some (.ok (.b true) []) := by
  obtain ⟨m, hm⟩ := wmod7 a
  obtain ⟨n, hn⟩ := wmod6 b
  rw [f6_cong (y0 := (m.1 : Int)) (y1 := (n.1 : Int)) (hm.trans (self7 m).symm) (hn.trans (self6 n).symm)]
  exact zcase m n
end Go.AI

namespace Go.Proofs.YtmkgoiimkfppdaaGreatDoor
open Go.ChangeShapes Go.WideShapes Go.ChangeAt Go.RowKit Go.AI
set_option maxRecDepth 100000
set_option linter.unusedVariables false

theorem own : ownKnob Tryz.prog.godebug = none := by kernel_rfl
theorem gPow : Tryz.prog.globalNamed "internal/strconv.uint64pow10" = some 3 := by kernel_rfl
theorem gPowType : (Tryz.prog.globals[3]?).map (·.type) = some 207 := by kernel_rfl
theorem cells207 : Tryz.prog.cellsOf 207 = 20 := by kernel_rfl
theorem cellsU64 : Tryz.prog.cellsOf 98 = 1 := by kernel_rfl

abbrev Lyd : List (String × DataW Unit) := Rows.actionZerosRow.laid
theorem glob_of_laid {W : World} (h : laidMetH Tryz.prog Lyd W) : GlobR Tryz.prog (startOf W) Gl := by
  have h1 := (laidMetH_iff.1 h).1
  have h2 := h1.filter fun x => x.1 == "internal/strconv.uint64pow10"
  have e : ((Lyd.filter fun x => x.2.handleName?.isNone).filter fun x => x.1 == "internal/strconv.uint64pow10") = [("internal/strconv.uint64pow10", Lib.tabData .u64 Lib.pow10Tab)] := by kernel_rfl
  rw [e] at h2
  have h3 : Lib.TabIs Tryz.prog W "internal/strconv.uint64pow10" .u64 Lib.pow10Tab := Lib.tabIs_of_head gPow gPowType Tryz.underlying207 Tryz.underlying98 cellsU64 cells207 h2
  refine globR_start fun g v hg => ?_
  unfold Gl at hg
  cases hb : Nat.beq g 3 with
  | false => rw [hb] at hg; cases hg
  | true =>
    rw [hb] at hg
    obtain rfl := Nat.eq_of_beq_eq_true hb
    cases hg
    refine ⟨_, _, rfl, by kernel_rfl, fun k hk => ?_, ?_⟩
    · have hk' : k < 20 := hk
      have : ∀ k : Fin 20, isData (lget (Lib.pow10Tab.map (AV.i .u64)) k.1 .unk) = true := by decide +kernel
      exact this ⟨k, hk'⟩
    · unfold Lib.TabIs World.var? at h3
      rw [gPow] at h3
      simp only [Option.bind_some] at h3
      split at h3
      · rename_i cs ty fr hc
        cases h3
        exact ⟨ty, fr, by rw [hc]; rfl⟩
      · cases h3
section
variable {H : Type} {enc : TypeId × Value → H} {P : Program}
/-- a call that wrote nothing of what was there: what it leaves reads as it read -/
theorem post_of_below {f : Func} {s : ChangeSpec} {apart fresh handsOn again : Bool} {W W' : World} {args : Array Value} {v : Value} {ds gs : List (DataW H)} {before pa pv : List MemPlace}
    (hW : DataW.Whole enc P f.params.toList s.vars apart W args.toList ds gs before)
    (hres : ∀ (b : Nat) (sp : Nat → Bool) (hd : Bool), DataW.TrodAll enc P W' b sp hd f.resultTypes.toList (v.resultList f.resultTypes.size) (s.fn H (ds ++ gs)).results [])
    (hargs : ∀ sp : Nat → Bool, (∀ p ∈ before, sp p.block = true) → DataW.TrodAll enc P W' 0 sp true f.params.toList args.toList (s.fn H (ds ++ gs)).args pa)
    (hvars : ∀ sp : Nat → Bool, (∀ p ∈ before, sp p.block = true) → DataW.TrodVars enc P W' sp s.vars (s.fn H (ds ++ gs)).vars pv)
    (hps : before = pa ++ pv) (hb : Below W.heap.size W W')
    (hok : ∀ (j : Nat) (t : TypeId) (r : Value), f.resultTypes[j]? = some t → (v.resultList f.resultTypes.size)[j]? = some r → Value.okWide P W' .any 0 t r) :
    s.post enc P f apart fresh handsOn again W args v W' := by
  have hold : ∀ p ∈ before, (fun b => decide (b < W.heap.size)) p.block = true := fun p hp => by simpa using hW.lt p hp
  have hlt : ∀ p ∈ before, p.block < W.heap.size := fun p hp => hW.lt p hp
  refine ⟨ds, gs, before, [], pa, pv, hW, hres _ _ _, hargs _ hold, hvars _ hold, World.keptBut_mono (fun p hp => ⟨hp, ?_⟩) (hb.frame (· ∈ before)), fun _ => ?_⟩
  · rw [hps, List.mem_append] at hp
    exact Or.inr hp
  · obtain ⟨_, _, _, _, _, hz, hn⟩ := hW
    refine ⟨hok, _, _, ([] ++ pa) ++ pv, ⟨[] ++ pa, pv, trodAll_append (hargs _ (fun _ _ => rfl)) (hres _ _ _), hvars _ (fun _ _ => rfl), rfl, ?_, ?_⟩, ?_⟩
    · intro b off hp
      have hp' : MemPlace.cell b off ∈ before := by rw [hps]; simpa using hp
      rw [hb.frozen (hlt _ hp')]
      exact hz b off hp'
    · intro ha
      have := hn ha
      rw [hps] at this
      simpa using this
    · intro p hp _
      rw [hps]
      simpa using hp
end
theorem walk6 (w : World) (hL : laidMetH Tryz.prog Lyd w) (a b : Int) (wa : (Lit.int IntKind.i64 a).wf = true) (wb : (Lit.int IntKind.i64 b).wf = true) :
    Calls Tryz.prog 6 #[.int .i64 a, .int .i64 b] w (fun e w' => e = .returned (.bool true) ∧ Below w.heap.size w w') :=
  law_calls (ok6a 300) (args := [.i .i64 a, .i .i64 b]) (F := fun K => f6a 300 a b (fun y0 => K (.ok (.b y0) []))) rfl (zeros_true a b) Tryz.func6 (by kernel_rfl) (glob_of_laid hL) (vs := [.int .i64 a, .int .i64 b]) ⟨CR.int _ _, CR.int _ _, trivial⟩

theorem contract (H : Type) (enc : TypeId × Value → H) (W : World) (base : Nat) (args : Array Value) (ds gs : List (DataW H)) (before : List MemPlace)
    (hval : ∀ (j : Nat) t v, Tryz.f6.params[j]? = some t → args[j]? = some v → Value.okWide Tryz.prog W .any base t v)
    (hW : DataW.Whole enc Tryz.prog Tryz.f6.params.toList Rows.actionZerosSpec.vars false W args.toList ds gs before) (hL : laidMetH Tryz.prog Rows.actionZerosRow.laid W) :
    Calls Tryz.prog 6 args W fun e W' => ∃ v, e = .returned v ∧ Rows.actionZerosSpec.post enc Tryz.prog Tryz.f6 false true false false W args v W' := by
  have hW' := hW
  obtain ⟨p, q, hA0, hV, rfl, hfz, hnd⟩ := hW
  have hA : DataW.TrodAll enc Tryz.prog W 0 (fun _ => true) true Tryz.f6.params.toList args.toList ds p := hA0
  rw [Tryz.params6] at hA hval
  obtain ⟨v0, vs0, d0, ds0, p0, q0, hargs, rfl, rfl, h0, r0⟩ := trodAll_cons hA
  obtain ⟨v1, vs1, d1, ds1, p1, q1, rfl, rfl, rfl, h1, r1⟩ := trodAll_cons r0
  obtain ⟨rfl, rfl, rfl⟩ := trodAll_nil r1
  obtain rfl : args = #[v0, v1] := by cases args; simp_all
  obtain ⟨rfl, rfl⟩ := trodVars_none hV
  obtain ⟨a, rfl, rfl, rfl, wa⟩ := open_int Tryz.underlying3 (hval 0 3 v0 rfl rfl) h0
  obtain ⟨b, rfl, rfl, rfl, wb⟩ := open_int Tryz.underlying3 (hval 1 3 v1 rfl rfl) h1
  clear hA0
  simp only [List.append_nil] at hW'
  refine (walk6 W hL a b wa wb).mono fun e W' ⟨he, hg⟩ => ?_
  subst he
  exact ⟨_, rfl, post_of_below (pa := []) (pv := []) hW' (fun _ _ _ => trodAll_cons_mk (shut_bool Tryz.underlying4 _) trodAll_mk0)
    (fun _ _ => trodAll_cons_mk (shut_int Tryz.underlying3 wa) (trodAll_cons_mk (shut_int Tryz.underlying3 wb) trodAll_mk0)) (fun _ _ => rfl) rfl hg (ok_one (by kernel_rfl) rfl (okWide_bool_mk Tryz.underlying4 _))⟩

theorem lifted (os : Os) (started : os.Started) (H : Type) (enc : TypeId × Value → H) (F : Stop.Interp) :
    ReturnsInHanded {} Tryz.checked os 6 .any ((OpenSpec.ofChange Rows.actionZerosSpec).preRow enc Tryz.prog Tryz.f6 Rows.actionZerosRow.domain false Rows.actionZerosRow.laid) (((OpenSpec.ofChange Rows.actionZerosSpec).at F).post enc Tryz.prog Tryz.f6 false true false false) := by
  have hL : laidMetH Tryz.prog Rows.actionZerosRow.laid ((World.laidAll Tryz.prog os Rows.actionZerosRow.laid).forCall (fun _ _ => 0) ⟨#[], #[.int .i64 0, .int .i64 0], []⟩).memory := by
    rw [MakeChecks.laidMetH_plain _ _ _ (by kernel_rfl)]; exact laidMet_laidAll _ (by kernel_rfl) (by kernel_rfl)
  have hx : DataW.whole enc Tryz.prog ((World.laidAll Tryz.prog os Rows.actionZerosRow.laid).forCall (fun _ _ => 0) ⟨#[], #[.int .i64 0, .int .i64 0], []⟩).memory Tryz.f6.params.toList Rows.actionZerosSpec.vars false #[Value.int .i64 0, Value.int .i64 0].toList 8 = some ([.lit (.int .i64 0), .lit (.int .i64 0)], [], []) := by kernel_rfl
  refine returnsInHanded_of_row (C := Tryz.checked) (s := OpenSpec.ofChange Rows.actionZerosSpec) own started (by kernel_rfl) Tryz.func6
    (witness_row_at (enc := enc) (C := Tryz.checked) false (World.laidAll Tryz.prog os Rows.actionZerosRow.laid) #[.int .i64 0, .int .i64 0] (World.laidAll_os _ _ _) (by kernel_rfl) (by kernel_rfl) (by kernel_rfl)
      (OpenSpec.preRow_of_cond 8 hx (by kernel_rfl) (fun k hk => by cases hk) (by kernel_rfl) hL)) ?_
  intro W base args ds gs before hval hW _ _ _ hL _ _
  exact contract H enc W base args ds gs before hval hW hL

theorem said : Rows.ActionZerosSaid :=
  OpenClaim.holds_of_cond 6 Tryz.f6 rfl rfl rfl rfl rfl rfl rfl ⟨rfl, rfl, rfl, rfl, rfl⟩ rfl rfl rfl rfl rfl (by kernel_rfl) Tryz.func6 (by kernel_rfl)
    (of_decide_eq_true (by kernel_rfl)) (by unfold Func.isWrapper; first | (rw [if_pos (by decide +kernel)]; kernel_rfl) | (rw [if_neg (by decide +kernel)]; exact ⟨rfl, rfl⟩))
    (fun os started H enc _ F => by rw [OpenClaim.pre_eq_preRow]; exact lifted os started H enc F)

theorem plain (f : FuncId) (fn : Func) (hf : Tryz.pinned.checked.prog.funcNamed "boathouse/boathouselaw19.ActionZeros" = some f) (hfn : Tryz.pinned.checked.prog.funcs[f]? = some fn) :
    true = Tryz.pinned.checked.prog.looks [] ∧ ∀ (j : Nat) t, fn.params[j]? = some t → Tryz.pinned.checked.prog.wantsStandIn t = false := by
  obtain rfl : f = 6 := Option.some.inj ((show Tryz.prog.funcNamed "boathouse/boathouselaw19.ActionZeros" = some 6 by kernel_rfl).symm.trans hf) |>.symm
  obtain rfl : fn = Tryz.f6 := (Option.some.inj (Tryz.func6.symm.trans hfn)).symm
  refine ⟨by kernel_rfl, fun j t ht => ?_⟩
  rw [Tryz.params6] at ht
  obtain rfl : t = 3 := by simpa using Array.mem_of_getElem? ht
  exact (show Tryz.prog.wantsStandIn 3 = false by kernel_rfl)

/-- THE CARD -/
theorem card : Rows.ActionZerosCardSaid :=
  Claim7.holds_tied_plain_at .later [] _ _ _ _ said (fun _ h => by cases h) (by kernel_rfl) (fun _ h => by cases h) actionZeros_row_tie rfl ⟨rfl, rfl⟩ (by kernel_rfl) rfl plain (by kernel_rfl)
end Go.Proofs.YtmkgoiimkfppdaaGreatDoor
