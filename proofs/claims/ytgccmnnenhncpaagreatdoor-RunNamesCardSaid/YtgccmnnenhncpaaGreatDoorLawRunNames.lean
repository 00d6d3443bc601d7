/-
  RunNames: what a call of it comes to.
-/
import Derived.Test.YtgccmnnenhncpaaGreatDoorLawRunNamesC0
import Derived.Test.YtgccmnnenhncpaaGreatDoorLawRunNamesC1
import Derived.Test.YtgccmnnenhncpaaGreatDoorLawRunNamesC2
import Derived.Test.YtgccmnnenhncpaaGreatDoorLawRunNamesC3
namespace Go.Proofs.YtgccmnnenhncpaaGreatDoor
open Go Vx

theorem rnam_all (p : Nat) (r : Nat) (hp : p < 8) (hr : r < 2) : runM 8 [] [.rem 0 8 p, .and 2 1 r] 3 [.int .i64 (.var 0), .int .i64 (.var 1), .int .i64 (.var 2)] = true := by
  rcases Nat.lt_or_ge p 4 with gp | gp
  · rcases Nat.lt_or_ge p 2 with gp | gp
    · rcases Nat.lt_or_ge p 1 with gp | gp
      · obtain rfl : p = 0 := by omega
        rcases Nat.lt_or_ge r 1 with gr | gr
        · obtain rfl : r = 0 := by omega
          exact rnam_0_0
        · obtain rfl : r = 1 := by omega
          exact rnam_0_1
      · obtain rfl : p = 1 := by omega
        rcases Nat.lt_or_ge r 1 with gr | gr
        · obtain rfl : r = 0 := by omega
          exact rnam_1_0
        · obtain rfl : r = 1 := by omega
          exact rnam_1_1
    · rcases Nat.lt_or_ge p 3 with gp | gp
      · obtain rfl : p = 2 := by omega
        rcases Nat.lt_or_ge r 1 with gr | gr
        · obtain rfl : r = 0 := by omega
          exact rnam_2_0
        · obtain rfl : r = 1 := by omega
          exact rnam_2_1
      · obtain rfl : p = 3 := by omega
        rcases Nat.lt_or_ge r 1 with gr | gr
        · obtain rfl : r = 0 := by omega
          exact rnam_3_0
        · obtain rfl : r = 1 := by omega
          exact rnam_3_1
  · rcases Nat.lt_or_ge p 6 with gp | gp
    · rcases Nat.lt_or_ge p 5 with gp | gp
      · obtain rfl : p = 4 := by omega
        rcases Nat.lt_or_ge r 1 with gr | gr
        · obtain rfl : r = 0 := by omega
          exact rnam_4_0
        · obtain rfl : r = 1 := by omega
          exact rnam_4_1
      · obtain rfl : p = 5 := by omega
        rcases Nat.lt_or_ge r 1 with gr | gr
        · obtain rfl : r = 0 := by omega
          exact rnam_5_0
        · obtain rfl : r = 1 := by omega
          exact rnam_5_1
    · rcases Nat.lt_or_ge p 7 with gp | gp
      · obtain rfl : p = 6 := by omega
        rcases Nat.lt_or_ge r 1 with gr | gr
        · obtain rfl : r = 0 := by omega
          exact rnam_6_0
        · obtain rfl : r = 1 := by omega
          exact rnam_6_1
      · obtain rfl : p = 7 := by omega
        rcases Nat.lt_or_ge r 1 with gr | gr
        · obtain rfl : r = 0 := by omega
          exact rnam_7_0
        · obtain rfl : r = 1 := by omega
          exact rnam_7_1
theorem rnam_any (a : Int) (b : Int) (c : Int) (w : World) : Calls Tryz.prog 3 #[.int .i64 a, .int .i64 b, .int .i64 c] w fun e w' => e = .returned (.bool true) ∧ Go.RowKit.Below w.heap.size w w' := by
  obtain ⟨p, hp, fp⟩ := mask_rem a 8 (by omega)
  have kp : (MK.rem 0 8 p).OK (rhoL [a, b, c]) := fp
  obtain ⟨r, hr, fr⟩ := mask_and c 1 (by decide)
  have kr : (MK.and 2 1 r).OK (rhoL [a, b, c]) := fr
  exact runM_calls awake_run (ρ := rhoL [a, b, c]) ivs_nil (all_cons kp (all_cons kr all_nil)) (by decide) (rnam_all p r (by omega) (by omega)) (.cons (.int rfl) (.cons (.int rfl) (.cons (.int rfl) .nil))) w
end Go.Proofs.YtgccmnnenhncpaaGreatDoor
