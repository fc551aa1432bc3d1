/- StateLimits, plainly: the greatest state, and its bytes. -/
import Derived.Test.YtmiljlbbacbbpaaStP
import Derived.Test.YtmiljlbbacbbpaaCutP
namespace Go.Proofs.Ytmiljlbbacbbpaa
open Go.RowKit PBase
open Go.Proofs.YtmiljlbbacbbpaaW.PrintWords Go.Proofs.YtmiljlbbacbbpaaW.PrintLast Go.Proofs.YtmiljlbbacbbpaaW.PrintMore
set_option linter.unusedVariables false
set_option linter.unusedSimpArgs false

def great : S56 := ⟨64, 64, 64, List.replicate 4096 0⟩
abbrev gPs : List S56 := List.replicate 64 great
abbrev gSs : List (List S56) := List.replicate 64 (List.replicate 4 great)
theorem great_len : great.f3.length = 4096 := List.length_replicate
theorem great_0 : great.f0 = 64 := rfl
theorem great_1 : great.f1 = 64 := rfl
theorem great_2 : great.f2 = 64 := rfl
theorem great_all {x : Int} (h : x ∈ great.f3) : x = 0 := (List.mem_replicate.1 h).2
theorem great_fits : fitsV great = true := by
  unfold fitsV
  rw [great_len, great_0, great_1, great_2]
  simp only [Bool.and_eq_true, decide_eq_true_eq, List.all_eq_true]
  refine ⟨⟨⟨⟨⟨⟨by decide, by decide⟩, by decide⟩, by decide⟩, by decide⟩, by decide⟩, fun x hx => ?_⟩
  rw [great_all hx]
  decide
theorem great_size : (matB great).length = 32773 := by
  have h := matB_size great_fits
  have h2 : sizeM great = 32773 := by unfold sizeM; rw [great_len, great_2]; decide
  omega
theorem gPs_size : ∀ n : Nat, (matsB (List.replicate n great)).length = n * 32773
  | 0 => rfl
  | n + 1 => by
    have := gPs_size n
    unfold matsB at this ⊢
    rw [List.replicate_succ, List.flatMap_cons, List.length_append, this, great_size]
    omega
theorem gSs_size : ∀ n : Nat, (slotsB (List.replicate n (List.replicate 4 great))).length = n * 131093
  | 0 => rfl
  | n + 1 => by
    have := gSs_size n
    unfold slotsB at this ⊢
    rw [List.replicate_succ, List.flatMap_cons, List.length_append, this, slotB, List.length_append, leB_length, gPs_size]
    omega
theorem great_in {n : Nat} {m : S56} (h : m ∈ List.replicate n great) : m = great := (List.mem_replicate.1 h).2
theorem greats_in {n : Nat} {s : List S56} (h : s ∈ List.replicate n (List.replicate 4 great)) : s = List.replicate 4 great := (List.mem_replicate.1 h).2
theorem lim_check : checkV 1099511627776 1099511627776 1099511627776 gPs gSs = 0 := by
  rw [check_good (by decide) (by decide) (by decide) (by simp) (by simp) (fun m hm => by rw [great_in hm]; exact great_fits) (fun s hs => by rw [greats_in hs]; exact ⟨by simp, fun m hm => by rw [great_in hm]; exact great_fits⟩), gPs_size, gSs_size]
  decide
theorem lim_words : Words 1099511627776 1099511627776 1099511627776 gPs gSs (-9223372036854775808) 9223372036854775807 := by
  have key : ∀ x ∈ great.f3, -9223372036854775808 ≤ x ∧ x < 9223372036854775808 := fun x hx => by
    rw [great_all hx]
    decide
  exact ⟨fun m hm => by rw [great_in hm]; exact key, fun s hs m hm => by rw [greats_in hs] at hm; rw [great_in hm]; exact key, by decide, by decide⟩
abbrev limB : List Int := writeP 1099511627776 1099511627776 1099511627776 gPs gSs (-9223372036854775808) 9223372036854775807
theorem lim_length : limB.length = 10487476 := by
  have h1 := body_length 1099511627776 1099511627776 1099511627776 gPs gSs (-9223372036854775808) 9223372036854775807
  have hp : (matsB gPs).length = 64 * 32773 := gPs_size 64
  have hs : (slotsB gSs).length = 64 * 131093 := gSs_size 64
  obtain ⟨X, hX⟩ : ∃ X, X = (matsB gPs).length := ⟨_, rfl⟩
  obtain ⟨Y, hY⟩ : ∃ Y, Y = (slotsB gSs).length := ⟨_, rfl⟩
  rw [← hX] at h1 hp
  rw [← hY] at h1 hs
  have h2 : limB.length = (bodyB 1099511627776 1099511627776 1099511627776 gPs gSs (-9223372036854775808) 9223372036854775807).length + 4 := by
    unfold limB writeP
    rw [List.length_append, leB_length]
  omega
theorem lim_read : state_Read.f limB = some (1099511627776, 1099511627776, 1099511627776, gPs, gSs, -9223372036854775808, 9223372036854775807, 0, 0) :=
  read_ok (write_bytes _ _ _ _ _ _ _) (write_read (whole_of lim_check) lim_words)
theorem lim_write : Ev (fun k => state_Write.f k 1099511627776 1099511627776 1099511627776 gPs gSs (-9223372036854775808) 9223372036854775807) (limB, 0) := by
  have := write_ev 1099511627776 1099511627776 1099511627776 gPs gSs (-9223372036854775808) 9223372036854775807
  rwa [if_pos lim_check] at this
theorem lim_same : Ev (fun k => pupillaw23_same.f k 1099511627776 1099511627776 1099511627776 gPs gSs (-9223372036854775808) 9223372036854775807 1099511627776 1099511627776 1099511627776 gPs gSs (-9223372036854775808) 9223372036854775807) true :=
  same_all _ _ _ _ _ _ _ (whole_of lim_check).small.hp (whole_of lim_check).small.hl (whole_of lim_check).small.hs
theorem long_read (n : Nat) (h : 16777216 < n) : state_Read.f (List.replicate n 0) = some (0, 0, 0, [], [], 0, 0, 0, 2) := by
  refine read_stopped (fun x hx => ?_) ?_
  · obtain ⟨_, rfl⟩ := List.mem_replicate.1 hx
    decide
  · unfold readP
    rw [if_pos (by rw [List.length_replicate]; exact h)]
end Go.Proofs.Ytmiljlbbacbbpaa
