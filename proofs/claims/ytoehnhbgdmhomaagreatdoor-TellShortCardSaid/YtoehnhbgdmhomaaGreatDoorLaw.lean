/-
  TellShort's contract, for all its inputs, out of its classes.
  No condition stands but those in each theorem's own words.
-/
import Derived.Test.YtoehnhbgdmhomaaGreatDoorTS0
import Derived.Test.YtoehnhbgdmhomaaGreatDoorTS1
import Derived.Test.YtoehnhbgdmhomaaGreatDoorTS2
import Derived.Test.YtoehnhbgdmhomaaGreatDoorTS3
import Derived.Test.YtoehnhbgdmhomaaGreatDoorTS4
import Derived.Test.YtoehnhbgdmhomaaGreatDoorTS5
import Derived.Test.YtoehnhbgdmhomaaGreatDoorTS6
import Derived.Test.YtoehnhbgdmhomaaGreatDoorTS7
import Derived.Test.YtoehnhbgdmhomaaGreatDoorTS8
import Derived.Test.YtoehnhbgdmhomaaGreatDoorTS9
import Derived.Test.YtoehnhbgdmhomaaGreatDoorTS10
import Derived.Test.YtoehnhbgdmhomaaGreatDoorTS11
import Derived.Test.YtoehnhbgdmhomaaGreatDoorTS12
import Derived.Test.YtoehnhbgdmhomaaGreatDoorTS13
import Derived.Test.YtoehnhbgdmhomaaGreatDoorTS14
import Derived.Test.YtoehnhbgdmhomaaGreatDoorTS15
import Derived.Test.YtoehnhbgdmhomaaGreatDoorTS16
set_option maxRecDepth 1000000
namespace Go.Ev
open Go.Proofs
/-- a byte of which nothing is known -/
theorem q0 {ρ : Ren} {n : Nat} (h : n ≤ 255) : V ρ (.q .u8 [] []) (.int .u8 (Int.ofNat n)) :=
  .q .u8 [] [] n h rfl (fun _ hx => by cases hx) (fun i x v hx => by simp at hx)
/-- a byte of which one rest is known -/
theorem q1 {ρ : Ren} {n m r : Nat} (h : n ≤ 255) (hm : 0 < m) (e : n % m = r) : V ρ (.q .u8 [(true, m)] [.i .u8 (.ofNat r)]) (.int .u8 (Int.ofNat n)) := by
  refine .q .u8 _ _ n h rfl (fun x hx => ?_) (fun i x v hx hv => ?_)
  · simp only [List.mem_singleton] at hx
    subst hx
    exact hm
  · cases i with
    | zero =>
      simp only [List.getElem?_cons_zero, Option.some.injEq] at hx hv
      subst hx
      subst hv
      simp only [if_true, e]
      exact .i _ _
    | succ i => simp at hx
/-- a byte of which the last two digits to the base 4 are known -/
theorem q2 {ρ : Ren} {n a b : Nat} (h : n ≤ 255) (e : n % 4 = a) (e' : n / 4 % 4 = b) : V ρ (.q .u8 [(true, 4), (false, 4)] [.i .u8 (.ofNat a), .q .u8 [(true, 4)] [.i .u8 (.ofNat b)]]) (.int .u8 (Int.ofNat n)) := by
  refine .q .u8 _ _ n h rfl (fun x hx => ?_) (fun i x v hx hv => ?_)
  · simp only [List.mem_cons, List.not_mem_nil, or_false] at hx
    rcases hx with rfl | rfl <;> decide
  · match i, hx, hv with
    | 0, hx, hv =>
      simp only [List.getElem?_cons_zero, Option.some.injEq] at hx hv
      subst hx
      subst hv
      simp only [if_true, e]
      exact .i _ _
    | 1, hx, hv =>
      simp only [List.getElem?_cons_succ, List.getElem?_cons_zero, Option.some.injEq] at hx hv
      subst hx
      subst hv
      exact q1 (by simp only [Bool.false_eq_true, if_false]; omega) (by decide) (by simpa using e')
    | i + 2, hx, hv => simp at hx
/-- a byte of which one rest is known and another asked -/
theorem q3 {ρ : Ren} {n a : Nat} (h : n ≤ 255) (e : n % 4 = a) : V ρ (.q .u8 [(true, 5), (true, 4)] [.q .u8 [] [], .i .u8 (.ofNat a)]) (.int .u8 (Int.ofNat n)) := by
  refine .q .u8 _ _ n h rfl (fun x hx => ?_) (fun i x v hx hv => ?_)
  · simp only [List.mem_cons, List.not_mem_nil, or_false] at hx
    rcases hx with rfl | rfl <;> decide
  · match i, hx, hv with
    | 0, hx, hv =>
      simp only [List.getElem?_cons_zero, Option.some.injEq] at hx hv
      subst hx
      subst hv
      exact q0 (by simp only [if_true]; omega)
    | 1, hx, hv =>
      simp only [List.getElem?_cons_succ, List.getElem?_cons_zero, Option.some.injEq] at hx hv
      subst hx
      subst hv
      simp only [if_true, e]
      exact .i _ _
    | i + 2, hx, hv => simp at hx
/-- one class: the call answers true and turns no elder block -/
theorem of_class {a b c : AV} {x y z : Value} {w : World} (hev : callA tab2 dtab 100 ⟨.d0,.d0,.d0,.d3⟩ [a, b, c] heap0 b0 (fun u _ _ => same u (.b true)) (fun _ _ _ => false) = true)
    (ha : V ren0 a x) (hb : V ren0 b y) (hc : V ren0 c z) : Calls Tryz.prog (FK.val ⟨.d0,.d0,.d0,.d3⟩) #[x, y, z] w fun en w' => en = .returned (.bool true) ∧ Keeps w w' := by
  refine (known_of (callA_ok tab2_ok 100) rfl hev w [x, y, z] (Vs.cons ha (Vs.cons hb (Vs.cons hc (Vs.nil _))))).mono ?_
  rintro en w' ⟨v, rfl, hv, hk⟩
  cases hv
  exact ⟨rfl, hk⟩
/-- TellShort's contract, for all its inputs -/
theorem law (n0 n1 n2 : Nat) (h0 : n0 ≤ 255) (h1 : n1 ≤ 255) (h2 : n2 ≤ 255) (w : World) : Calls Tryz.prog (FK.val ⟨.d0,.d0,.d0,.d3⟩) #[.int .u8 (Int.ofNat n0), .int .u8 (Int.ofNat n1), .int .u8 (Int.ofNat n2)] w fun en w' => en = .returned (.bool true) ∧ Keeps w w' := by
  rcases (by omega : n0 % 4 = 0 ∨ n0 % 4 = 1 ∨ n0 % 4 = 2 ∨ n0 % 4 = 3) with e0 | e0 | e0 | e0
  · rcases (by omega : n1 % 5 = 0 ∨ n1 % 5 = 1 ∨ n1 % 5 = 2 ∨ n1 % 5 = 3 ∨ n1 % 5 = 4) with e1 | e1 | e1 | e1 | e1
    · rcases (by omega : n2 % 5 = 0 ∨ n2 % 5 = 1 ∨ n2 % 5 = 2 ∨ n2 % 5 = 3 ∨ n2 % 5 = 4) with e2 | e2 | e2 | e2 | e2
      · exact of_class ts0_0_0 (q1 h0 (by decide) e0) (q1 h1 (by decide) e1) (q1 h2 (by decide) e2)
      · exact of_class ts0_0_1 (q1 h0 (by decide) e0) (q1 h1 (by decide) e1) (q1 h2 (by decide) e2)
      · exact of_class ts0_0_2 (q1 h0 (by decide) e0) (q1 h1 (by decide) e1) (q1 h2 (by decide) e2)
      · exact of_class ts0_0_3 (q1 h0 (by decide) e0) (q1 h1 (by decide) e1) (q1 h2 (by decide) e2)
      · exact of_class ts0_0_4 (q1 h0 (by decide) e0) (q1 h1 (by decide) e1) (q1 h2 (by decide) e2)
    · rcases (by omega : n2 % 5 = 0 ∨ n2 % 5 = 1 ∨ n2 % 5 = 2 ∨ n2 % 5 = 3 ∨ n2 % 5 = 4) with e2 | e2 | e2 | e2 | e2
      · exact of_class ts0_1_0 (q1 h0 (by decide) e0) (q1 h1 (by decide) e1) (q1 h2 (by decide) e2)
      · exact of_class ts0_1_1 (q1 h0 (by decide) e0) (q1 h1 (by decide) e1) (q1 h2 (by decide) e2)
      · exact of_class ts0_1_2 (q1 h0 (by decide) e0) (q1 h1 (by decide) e1) (q1 h2 (by decide) e2)
      · exact of_class ts0_1_3 (q1 h0 (by decide) e0) (q1 h1 (by decide) e1) (q1 h2 (by decide) e2)
      · exact of_class ts0_1_4 (q1 h0 (by decide) e0) (q1 h1 (by decide) e1) (q1 h2 (by decide) e2)
    · rcases (by omega : n2 % 5 = 0 ∨ n2 % 5 = 1 ∨ n2 % 5 = 2 ∨ n2 % 5 = 3 ∨ n2 % 5 = 4) with e2 | e2 | e2 | e2 | e2
      · exact of_class ts0_2_0 (q1 h0 (by decide) e0) (q1 h1 (by decide) e1) (q1 h2 (by decide) e2)
      · exact of_class ts0_2_1 (q1 h0 (by decide) e0) (q1 h1 (by decide) e1) (q1 h2 (by decide) e2)
      · exact of_class ts0_2_2 (q1 h0 (by decide) e0) (q1 h1 (by decide) e1) (q1 h2 (by decide) e2)
      · exact of_class ts0_2_3 (q1 h0 (by decide) e0) (q1 h1 (by decide) e1) (q1 h2 (by decide) e2)
      · exact of_class ts0_2_4 (q1 h0 (by decide) e0) (q1 h1 (by decide) e1) (q1 h2 (by decide) e2)
    · rcases (by omega : n2 % 5 = 0 ∨ n2 % 5 = 1 ∨ n2 % 5 = 2 ∨ n2 % 5 = 3 ∨ n2 % 5 = 4) with e2 | e2 | e2 | e2 | e2
      · exact of_class ts0_3_0 (q1 h0 (by decide) e0) (q1 h1 (by decide) e1) (q1 h2 (by decide) e2)
      · exact of_class ts0_3_1 (q1 h0 (by decide) e0) (q1 h1 (by decide) e1) (q1 h2 (by decide) e2)
      · exact of_class ts0_3_2 (q1 h0 (by decide) e0) (q1 h1 (by decide) e1) (q1 h2 (by decide) e2)
      · exact of_class ts0_3_3 (q1 h0 (by decide) e0) (q1 h1 (by decide) e1) (q1 h2 (by decide) e2)
      · exact of_class ts0_3_4 (q1 h0 (by decide) e0) (q1 h1 (by decide) e1) (q1 h2 (by decide) e2)
    · rcases (by omega : n2 % 5 = 0 ∨ n2 % 5 = 1 ∨ n2 % 5 = 2 ∨ n2 % 5 = 3 ∨ n2 % 5 = 4) with e2 | e2 | e2 | e2 | e2
      · exact of_class ts0_4_0 (q1 h0 (by decide) e0) (q1 h1 (by decide) e1) (q1 h2 (by decide) e2)
      · exact of_class ts0_4_1 (q1 h0 (by decide) e0) (q1 h1 (by decide) e1) (q1 h2 (by decide) e2)
      · exact of_class ts0_4_2 (q1 h0 (by decide) e0) (q1 h1 (by decide) e1) (q1 h2 (by decide) e2)
      · exact of_class ts0_4_3 (q1 h0 (by decide) e0) (q1 h1 (by decide) e1) (q1 h2 (by decide) e2)
      · exact of_class ts0_4_4 (q1 h0 (by decide) e0) (q1 h1 (by decide) e1) (q1 h2 (by decide) e2)
  · rcases (by omega : n1 % 5 = 0 ∨ n1 % 5 = 1 ∨ n1 % 5 = 2 ∨ n1 % 5 = 3 ∨ n1 % 5 = 4) with e1 | e1 | e1 | e1 | e1
    · rcases (by omega : n2 % 5 = 0 ∨ n2 % 5 = 1 ∨ n2 % 5 = 2 ∨ n2 % 5 = 3 ∨ n2 % 5 = 4) with e2 | e2 | e2 | e2 | e2
      · exact of_class ts1_0_0 (q1 h0 (by decide) e0) (q1 h1 (by decide) e1) (q1 h2 (by decide) e2)
      · exact of_class ts1_0_1 (q1 h0 (by decide) e0) (q1 h1 (by decide) e1) (q1 h2 (by decide) e2)
      · exact of_class ts1_0_2 (q1 h0 (by decide) e0) (q1 h1 (by decide) e1) (q1 h2 (by decide) e2)
      · exact of_class ts1_0_3 (q1 h0 (by decide) e0) (q1 h1 (by decide) e1) (q1 h2 (by decide) e2)
      · exact of_class ts1_0_4 (q1 h0 (by decide) e0) (q1 h1 (by decide) e1) (q1 h2 (by decide) e2)
    · rcases (by omega : n2 % 5 = 0 ∨ n2 % 5 = 1 ∨ n2 % 5 = 2 ∨ n2 % 5 = 3 ∨ n2 % 5 = 4) with e2 | e2 | e2 | e2 | e2
      · exact of_class ts1_1_0 (q1 h0 (by decide) e0) (q1 h1 (by decide) e1) (q1 h2 (by decide) e2)
      · exact of_class ts1_1_1 (q1 h0 (by decide) e0) (q1 h1 (by decide) e1) (q1 h2 (by decide) e2)
      · exact of_class ts1_1_2 (q1 h0 (by decide) e0) (q1 h1 (by decide) e1) (q1 h2 (by decide) e2)
      · exact of_class ts1_1_3 (q1 h0 (by decide) e0) (q1 h1 (by decide) e1) (q1 h2 (by decide) e2)
      · exact of_class ts1_1_4 (q1 h0 (by decide) e0) (q1 h1 (by decide) e1) (q1 h2 (by decide) e2)
    · rcases (by omega : n2 % 5 = 0 ∨ n2 % 5 = 1 ∨ n2 % 5 = 2 ∨ n2 % 5 = 3 ∨ n2 % 5 = 4) with e2 | e2 | e2 | e2 | e2
      · exact of_class ts1_2_0 (q1 h0 (by decide) e0) (q1 h1 (by decide) e1) (q1 h2 (by decide) e2)
      · exact of_class ts1_2_1 (q1 h0 (by decide) e0) (q1 h1 (by decide) e1) (q1 h2 (by decide) e2)
      · exact of_class ts1_2_2 (q1 h0 (by decide) e0) (q1 h1 (by decide) e1) (q1 h2 (by decide) e2)
      · exact of_class ts1_2_3 (q1 h0 (by decide) e0) (q1 h1 (by decide) e1) (q1 h2 (by decide) e2)
      · exact of_class ts1_2_4 (q1 h0 (by decide) e0) (q1 h1 (by decide) e1) (q1 h2 (by decide) e2)
    · rcases (by omega : n2 % 5 = 0 ∨ n2 % 5 = 1 ∨ n2 % 5 = 2 ∨ n2 % 5 = 3 ∨ n2 % 5 = 4) with e2 | e2 | e2 | e2 | e2
      · exact of_class ts1_3_0 (q1 h0 (by decide) e0) (q1 h1 (by decide) e1) (q1 h2 (by decide) e2)
      · exact of_class ts1_3_1 (q1 h0 (by decide) e0) (q1 h1 (by decide) e1) (q1 h2 (by decide) e2)
      · exact of_class ts1_3_2 (q1 h0 (by decide) e0) (q1 h1 (by decide) e1) (q1 h2 (by decide) e2)
      · exact of_class ts1_3_3 (q1 h0 (by decide) e0) (q1 h1 (by decide) e1) (q1 h2 (by decide) e2)
      · exact of_class ts1_3_4 (q1 h0 (by decide) e0) (q1 h1 (by decide) e1) (q1 h2 (by decide) e2)
    · rcases (by omega : n2 % 5 = 0 ∨ n2 % 5 = 1 ∨ n2 % 5 = 2 ∨ n2 % 5 = 3 ∨ n2 % 5 = 4) with e2 | e2 | e2 | e2 | e2
      · exact of_class ts1_4_0 (q1 h0 (by decide) e0) (q1 h1 (by decide) e1) (q1 h2 (by decide) e2)
      · exact of_class ts1_4_1 (q1 h0 (by decide) e0) (q1 h1 (by decide) e1) (q1 h2 (by decide) e2)
      · exact of_class ts1_4_2 (q1 h0 (by decide) e0) (q1 h1 (by decide) e1) (q1 h2 (by decide) e2)
      · exact of_class ts1_4_3 (q1 h0 (by decide) e0) (q1 h1 (by decide) e1) (q1 h2 (by decide) e2)
      · exact of_class ts1_4_4 (q1 h0 (by decide) e0) (q1 h1 (by decide) e1) (q1 h2 (by decide) e2)
  · rcases (by omega : n1 % 2 = 0 ∨ n1 % 2 = 1) with e1 | e1
    · rcases (by omega : n2 % 5 = 0 ∨ n2 % 5 = 1 ∨ n2 % 5 = 2 ∨ n2 % 5 = 3 ∨ n2 % 5 = 4) with e2 | e2 | e2 | e2 | e2
      · exact of_class ts2_0_0 (q1 h0 (by decide) e0) (q1 h1 (by decide) e1) (q1 h2 (by decide) e2)
      · exact of_class ts2_0_1 (q1 h0 (by decide) e0) (q1 h1 (by decide) e1) (q1 h2 (by decide) e2)
      · exact of_class ts2_0_2 (q1 h0 (by decide) e0) (q1 h1 (by decide) e1) (q1 h2 (by decide) e2)
      · exact of_class ts2_0_3 (q1 h0 (by decide) e0) (q1 h1 (by decide) e1) (q1 h2 (by decide) e2)
      · exact of_class ts2_0_4 (q1 h0 (by decide) e0) (q1 h1 (by decide) e1) (q1 h2 (by decide) e2)
    · rcases (by omega : n2 % 5 = 0 ∨ n2 % 5 = 1 ∨ n2 % 5 = 2 ∨ n2 % 5 = 3 ∨ n2 % 5 = 4) with e2 | e2 | e2 | e2 | e2
      · exact of_class ts2_1_0 (q1 h0 (by decide) e0) (q1 h1 (by decide) e1) (q1 h2 (by decide) e2)
      · exact of_class ts2_1_1 (q1 h0 (by decide) e0) (q1 h1 (by decide) e1) (q1 h2 (by decide) e2)
      · exact of_class ts2_1_2 (q1 h0 (by decide) e0) (q1 h1 (by decide) e1) (q1 h2 (by decide) e2)
      · exact of_class ts2_1_3 (q1 h0 (by decide) e0) (q1 h1 (by decide) e1) (q1 h2 (by decide) e2)
      · exact of_class ts2_1_4 (q1 h0 (by decide) e0) (q1 h1 (by decide) e1) (q1 h2 (by decide) e2)
  · rcases (by omega : n1 % 4 = 0 ∨ n1 % 4 = 1 ∨ n1 % 4 = 2 ∨ n1 % 4 = 3) with e1 | e1 | e1 | e1
    · rcases (by omega : n1 / 4 % 4 = 0 ∨ n1 / 4 % 4 = 1 ∨ n1 / 4 % 4 = 2 ∨ n1 / 4 % 4 = 3) with e2 | e2 | e2 | e2
      · rcases (by omega : n2 % 4 = 0 ∨ n2 % 4 = 1 ∨ n2 % 4 = 2 ∨ n2 % 4 = 3) with e3 | e3 | e3 | e3
        · exact of_class ts3_0_0_0 (q1 h0 (by decide) e0) (q2 h1 e1 e2) (q3 h2 e3)
        · exact of_class ts3_0_0_1 (q1 h0 (by decide) e0) (q2 h1 e1 e2) (q3 h2 e3)
        · exact of_class ts3_0_0_2 (q1 h0 (by decide) e0) (q2 h1 e1 e2) (q3 h2 e3)
        · exact of_class ts3_0_0_3 (q1 h0 (by decide) e0) (q2 h1 e1 e2) (q3 h2 e3)
      · rcases (by omega : n2 % 4 = 0 ∨ n2 % 4 = 1 ∨ n2 % 4 = 2 ∨ n2 % 4 = 3) with e3 | e3 | e3 | e3
        · exact of_class ts3_0_1_0 (q1 h0 (by decide) e0) (q2 h1 e1 e2) (q3 h2 e3)
        · exact of_class ts3_0_1_1 (q1 h0 (by decide) e0) (q2 h1 e1 e2) (q3 h2 e3)
        · exact of_class ts3_0_1_2 (q1 h0 (by decide) e0) (q2 h1 e1 e2) (q3 h2 e3)
        · exact of_class ts3_0_1_3 (q1 h0 (by decide) e0) (q2 h1 e1 e2) (q3 h2 e3)
      · rcases (by omega : n2 % 4 = 0 ∨ n2 % 4 = 1 ∨ n2 % 4 = 2 ∨ n2 % 4 = 3) with e3 | e3 | e3 | e3
        · exact of_class ts3_0_2_0 (q1 h0 (by decide) e0) (q2 h1 e1 e2) (q3 h2 e3)
        · exact of_class ts3_0_2_1 (q1 h0 (by decide) e0) (q2 h1 e1 e2) (q3 h2 e3)
        · exact of_class ts3_0_2_2 (q1 h0 (by decide) e0) (q2 h1 e1 e2) (q3 h2 e3)
        · exact of_class ts3_0_2_3 (q1 h0 (by decide) e0) (q2 h1 e1 e2) (q3 h2 e3)
      · rcases (by omega : n2 % 4 = 0 ∨ n2 % 4 = 1 ∨ n2 % 4 = 2 ∨ n2 % 4 = 3) with e3 | e3 | e3 | e3
        · exact of_class ts3_0_3_0 (q1 h0 (by decide) e0) (q2 h1 e1 e2) (q3 h2 e3)
        · exact of_class ts3_0_3_1 (q1 h0 (by decide) e0) (q2 h1 e1 e2) (q3 h2 e3)
        · exact of_class ts3_0_3_2 (q1 h0 (by decide) e0) (q2 h1 e1 e2) (q3 h2 e3)
        · exact of_class ts3_0_3_3 (q1 h0 (by decide) e0) (q2 h1 e1 e2) (q3 h2 e3)
    · rcases (by omega : n1 / 4 % 4 = 0 ∨ n1 / 4 % 4 = 1 ∨ n1 / 4 % 4 = 2 ∨ n1 / 4 % 4 = 3) with e2 | e2 | e2 | e2
      · rcases (by omega : n2 % 4 = 0 ∨ n2 % 4 = 1 ∨ n2 % 4 = 2 ∨ n2 % 4 = 3) with e3 | e3 | e3 | e3
        · exact of_class ts3_1_0_0 (q1 h0 (by decide) e0) (q2 h1 e1 e2) (q3 h2 e3)
        · exact of_class ts3_1_0_1 (q1 h0 (by decide) e0) (q2 h1 e1 e2) (q3 h2 e3)
        · exact of_class ts3_1_0_2 (q1 h0 (by decide) e0) (q2 h1 e1 e2) (q3 h2 e3)
        · exact of_class ts3_1_0_3 (q1 h0 (by decide) e0) (q2 h1 e1 e2) (q3 h2 e3)
      · rcases (by omega : n2 % 4 = 0 ∨ n2 % 4 = 1 ∨ n2 % 4 = 2 ∨ n2 % 4 = 3) with e3 | e3 | e3 | e3
        · exact of_class ts3_1_1_0 (q1 h0 (by decide) e0) (q2 h1 e1 e2) (q3 h2 e3)
        · exact of_class ts3_1_1_1 (q1 h0 (by decide) e0) (q2 h1 e1 e2) (q3 h2 e3)
        · exact of_class ts3_1_1_2 (q1 h0 (by decide) e0) (q2 h1 e1 e2) (q3 h2 e3)
        · exact of_class ts3_1_1_3 (q1 h0 (by decide) e0) (q2 h1 e1 e2) (q3 h2 e3)
      · rcases (by omega : n2 % 4 = 0 ∨ n2 % 4 = 1 ∨ n2 % 4 = 2 ∨ n2 % 4 = 3) with e3 | e3 | e3 | e3
        · exact of_class ts3_1_2_0 (q1 h0 (by decide) e0) (q2 h1 e1 e2) (q3 h2 e3)
        · exact of_class ts3_1_2_1 (q1 h0 (by decide) e0) (q2 h1 e1 e2) (q3 h2 e3)
        · exact of_class ts3_1_2_2 (q1 h0 (by decide) e0) (q2 h1 e1 e2) (q3 h2 e3)
        · exact of_class ts3_1_2_3 (q1 h0 (by decide) e0) (q2 h1 e1 e2) (q3 h2 e3)
      · rcases (by omega : n2 % 4 = 0 ∨ n2 % 4 = 1 ∨ n2 % 4 = 2 ∨ n2 % 4 = 3) with e3 | e3 | e3 | e3
        · exact of_class ts3_1_3_0 (q1 h0 (by decide) e0) (q2 h1 e1 e2) (q3 h2 e3)
        · exact of_class ts3_1_3_1 (q1 h0 (by decide) e0) (q2 h1 e1 e2) (q3 h2 e3)
        · exact of_class ts3_1_3_2 (q1 h0 (by decide) e0) (q2 h1 e1 e2) (q3 h2 e3)
        · exact of_class ts3_1_3_3 (q1 h0 (by decide) e0) (q2 h1 e1 e2) (q3 h2 e3)
    · rcases (by omega : n1 / 4 % 4 = 0 ∨ n1 / 4 % 4 = 1 ∨ n1 / 4 % 4 = 2 ∨ n1 / 4 % 4 = 3) with e2 | e2 | e2 | e2
      · rcases (by omega : n2 % 4 = 0 ∨ n2 % 4 = 1 ∨ n2 % 4 = 2 ∨ n2 % 4 = 3) with e3 | e3 | e3 | e3
        · exact of_class ts3_2_0_0 (q1 h0 (by decide) e0) (q2 h1 e1 e2) (q3 h2 e3)
        · exact of_class ts3_2_0_1 (q1 h0 (by decide) e0) (q2 h1 e1 e2) (q3 h2 e3)
        · exact of_class ts3_2_0_2 (q1 h0 (by decide) e0) (q2 h1 e1 e2) (q3 h2 e3)
        · exact of_class ts3_2_0_3 (q1 h0 (by decide) e0) (q2 h1 e1 e2) (q3 h2 e3)
      · rcases (by omega : n2 % 4 = 0 ∨ n2 % 4 = 1 ∨ n2 % 4 = 2 ∨ n2 % 4 = 3) with e3 | e3 | e3 | e3
        · exact of_class ts3_2_1_0 (q1 h0 (by decide) e0) (q2 h1 e1 e2) (q3 h2 e3)
        · exact of_class ts3_2_1_1 (q1 h0 (by decide) e0) (q2 h1 e1 e2) (q3 h2 e3)
        · exact of_class ts3_2_1_2 (q1 h0 (by decide) e0) (q2 h1 e1 e2) (q3 h2 e3)
        · exact of_class ts3_2_1_3 (q1 h0 (by decide) e0) (q2 h1 e1 e2) (q3 h2 e3)
      · rcases (by omega : n2 % 4 = 0 ∨ n2 % 4 = 1 ∨ n2 % 4 = 2 ∨ n2 % 4 = 3) with e3 | e3 | e3 | e3
        · exact of_class ts3_2_2_0 (q1 h0 (by decide) e0) (q2 h1 e1 e2) (q3 h2 e3)
        · exact of_class ts3_2_2_1 (q1 h0 (by decide) e0) (q2 h1 e1 e2) (q3 h2 e3)
        · exact of_class ts3_2_2_2 (q1 h0 (by decide) e0) (q2 h1 e1 e2) (q3 h2 e3)
        · exact of_class ts3_2_2_3 (q1 h0 (by decide) e0) (q2 h1 e1 e2) (q3 h2 e3)
      · rcases (by omega : n2 % 4 = 0 ∨ n2 % 4 = 1 ∨ n2 % 4 = 2 ∨ n2 % 4 = 3) with e3 | e3 | e3 | e3
        · exact of_class ts3_2_3_0 (q1 h0 (by decide) e0) (q2 h1 e1 e2) (q3 h2 e3)
        · exact of_class ts3_2_3_1 (q1 h0 (by decide) e0) (q2 h1 e1 e2) (q3 h2 e3)
        · exact of_class ts3_2_3_2 (q1 h0 (by decide) e0) (q2 h1 e1 e2) (q3 h2 e3)
        · exact of_class ts3_2_3_3 (q1 h0 (by decide) e0) (q2 h1 e1 e2) (q3 h2 e3)
    · rcases (by omega : n1 / 4 % 4 = 0 ∨ n1 / 4 % 4 = 1 ∨ n1 / 4 % 4 = 2 ∨ n1 / 4 % 4 = 3) with e2 | e2 | e2 | e2
      · rcases (by omega : n2 % 4 = 0 ∨ n2 % 4 = 1 ∨ n2 % 4 = 2 ∨ n2 % 4 = 3) with e3 | e3 | e3 | e3
        · exact of_class ts3_3_0_0 (q1 h0 (by decide) e0) (q2 h1 e1 e2) (q3 h2 e3)
        · exact of_class ts3_3_0_1 (q1 h0 (by decide) e0) (q2 h1 e1 e2) (q3 h2 e3)
        · exact of_class ts3_3_0_2 (q1 h0 (by decide) e0) (q2 h1 e1 e2) (q3 h2 e3)
        · exact of_class ts3_3_0_3 (q1 h0 (by decide) e0) (q2 h1 e1 e2) (q3 h2 e3)
      · rcases (by omega : n2 % 4 = 0 ∨ n2 % 4 = 1 ∨ n2 % 4 = 2 ∨ n2 % 4 = 3) with e3 | e3 | e3 | e3
        · exact of_class ts3_3_1_0 (q1 h0 (by decide) e0) (q2 h1 e1 e2) (q3 h2 e3)
        · exact of_class ts3_3_1_1 (q1 h0 (by decide) e0) (q2 h1 e1 e2) (q3 h2 e3)
        · exact of_class ts3_3_1_2 (q1 h0 (by decide) e0) (q2 h1 e1 e2) (q3 h2 e3)
        · exact of_class ts3_3_1_3 (q1 h0 (by decide) e0) (q2 h1 e1 e2) (q3 h2 e3)
      · rcases (by omega : n2 % 4 = 0 ∨ n2 % 4 = 1 ∨ n2 % 4 = 2 ∨ n2 % 4 = 3) with e3 | e3 | e3 | e3
        · exact of_class ts3_3_2_0 (q1 h0 (by decide) e0) (q2 h1 e1 e2) (q3 h2 e3)
        · exact of_class ts3_3_2_1 (q1 h0 (by decide) e0) (q2 h1 e1 e2) (q3 h2 e3)
        · exact of_class ts3_3_2_2 (q1 h0 (by decide) e0) (q2 h1 e1 e2) (q3 h2 e3)
        · exact of_class ts3_3_2_3 (q1 h0 (by decide) e0) (q2 h1 e1 e2) (q3 h2 e3)
      · rcases (by omega : n2 % 4 = 0 ∨ n2 % 4 = 1 ∨ n2 % 4 = 2 ∨ n2 % 4 = 3) with e3 | e3 | e3 | e3
        · exact of_class ts3_3_3_0 (q1 h0 (by decide) e0) (q2 h1 e1 e2) (q3 h2 e3)
        · exact of_class ts3_3_3_1 (q1 h0 (by decide) e0) (q2 h1 e1 e2) (q3 h2 e3)
        · exact of_class ts3_3_3_2 (q1 h0 (by decide) e0) (q2 h1 e1 e2) (q3 h2 e3)
        · exact of_class ts3_3_3_3 (q1 h0 (by decide) e0) (q2 h1 e1 e2) (q3 h2 e3)
end Go.Ev
