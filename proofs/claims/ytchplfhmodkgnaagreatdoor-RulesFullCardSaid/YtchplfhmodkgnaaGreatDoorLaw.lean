/-
  The law's contract, for all its inputs, out of its classes.
  No condition stands but those in each theorem's own words.
-/
import Derived.Test.YtchplfhmodkgnaaGreatDoorRF0
import Derived.Test.YtchplfhmodkgnaaGreatDoorRF1
import Derived.Test.YtchplfhmodkgnaaGreatDoorRF2
import Derived.Test.YtchplfhmodkgnaaGreatDoorRF3
set_option maxRecDepth 1000000
namespace Go.Ev
open Go.Proofs
/-- a byte of which one rest is known -/
theorem q1 {ρ : Ren} {n m r : Nat} (h : n ≤ 255) (hm : 0 < m) (e : n % m = r) : V ρ (.q .u8 [(true, m)] [.i .u8 (.ofNat r)]) (.int .u8 (Int.ofNat n)) := by
  refine .q .u8 _ _ n h rfl (fun x hx => ?_) (fun i x v hx hv => ?_)
  · simp only [List.mem_singleton] at hx
    subst hx
    exact hm
  · cases i with
    | zero =>
      simp only [List.getElem?_cons_zero, Option.some.injEq] at hx hv
      subst hx
      subst hv
      simp only [if_true, e]
      exact .i _ _
    | succ i => simp at hx
/-- one class: the call answers true and turns no elder block -/
theorem of_run {n r : Nat} {w : World} (h : n ≤ 255) (e : n % 7 = r) (hev : callA tab3 dtab 100 ⟨.d0,.d0,.d0,.d3⟩ [(.q .u8 [(true,7)] [.i .u8 (.ofNat r)])] heap0 b0 (fun u _ _ => same u (.b true)) (fun _ _ _ => false) = true) :
    Calls Tryz.prog (FK.val ⟨.d0,.d0,.d0,.d3⟩) #[.int .u8 (Int.ofNat n)] w fun en w' => en = .returned (.bool true) ∧ Keeps w w' := by
  refine (known_of (callA_ok tab3_ok 100) rfl hev w [.int .u8 (Int.ofNat n)] (Vs.cons (q1 h (by decide) e) (Vs.nil _))).mono ?_
  rintro en w' ⟨v, rfl, hv, hk⟩
  cases hv
  exact ⟨rfl, hk⟩
/-- the law's contract, for all its inputs -/
theorem law (n : Nat) (h : n ≤ 255) (w : World) : Calls Tryz.prog (FK.val ⟨.d0,.d0,.d0,.d3⟩) #[.int .u8 (Int.ofNat n)] w fun en w' => en = .returned (.bool true) ∧ Keeps w w' := by
  rcases (by omega : n % 7 = 0 ∨ n % 7 = 1 ∨ n % 7 = 2 ∨ n % 7 = 3 ∨ n % 7 = 4 ∨ n % 7 = 5 ∨ n % 7 = 6) with e | e | e | e | e | e | e
  · exact of_run h e frun0
  · exact of_run h e frun1
  · exact of_run h e frun2
  · exact of_run h e frun3
  · exact of_run h e frun4
  · exact of_run h e frun5
  · exact of_run h e frun6
end Go.Ev
