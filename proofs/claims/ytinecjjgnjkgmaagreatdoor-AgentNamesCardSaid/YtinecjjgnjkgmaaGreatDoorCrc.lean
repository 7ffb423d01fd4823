/- A byte taken into a checksum. No condition. -/
import Derived.Test.YtinecjjgnjkgmaaGreatDoorProg
import Derived.Test.YtinecjjgnjkgmaaGreatDoorSvE
import Derived.WalkKit
import Derived.IntWalk
import Derived.Laws.BitsAllLaws
namespace Go.Proofs.YtinecjjgnjkgmaaGreatDoor
open Go.RowKit Go.Sy
theorem stepN_lt (s : Nat) (hs : s < 4294967296) : stepN s < 4294967296 := by
  unfold stepN
  split
  · exact Nat.xor_lt_two_pow (n := 32) (by omega) (by omega)
  · omega
theorem stepsN_lt (s : Nat) (hs : s < 4294967296) : ∀ k, stepsN k s < 4294967296
  | 0 => hs
  | k + 1 => stepN_lt _ (stepsN_lt s hs k)
set_option maxRecDepth 100000 in
set_option maxHeartbeats 1000000 in
theorem byByte_any (s c : Nat) (w : World) (hs : s < 4294967296) (hc : c < 256) :
    Calls Tryz.prog 207 #[.int .u32 s, .int .u8 c] w fun e w' => e = .returned (.int .u32 (stepsN 8 (s ^^^ c) : Nat)) ∧ w' = w := by
  have hx : s ^^^ c < 4294967296 := Nat.xor_lt_two_pow (n := 32) (by omega) (by omega)
  have hb := u32_xor_nat s c hs (by omega)
  go_enter Tryz.func207, Tryz.ntmps207
  go_wp2

  clear hb
  go_loop [0, 9] (fun s0 i => ∃ k : Nat, k ≤ 8 ∧ i = .int .i64 k ∧ s0 = .int .u32 (stepsN k (s ^^^ c) : Nat)) (fun _ i => 8 - (intOf i).toNat)
  case atStart => exact ⟨0, by omega, rfl, rfl⟩
  case round =>
    obtain ⟨k, hk, rfl, rfl⟩ := hrel
    have hlt := stepsN_lt _ hx k
    generalize hq : stepsN k (s ^^^ c) = x at hlt
    have hand := u32_and_nat x 1 hlt (by omega)
    by_cases hk8 : k < 8
    · go_wp2
      all_goals
        go_round
        case rel =>
          refine ⟨k + 1, by omega, by go_num, ?_⟩
          rename_i hbit
          have hand' : bits .and .u32 (x : Int) 1 = ((x % 2 : Nat) : Int) := by
            have := hand
            rw [Nat.and_one_is_mod] at this
            exact this
          rw [hand'] at hbit
          simp only [stepsN, hq, stepN]
          first
            | (have h2 : x % 2 = 1 := by
                 have := eq_of_beq hbit
                 omega
               rw [if_pos h2, show ((x : Int) / 2) = ((x / 2 : Nat) : Int) by omega, show (3988292384 : Int) = ((3988292384 : Nat) : Int) from rfl, u32_xor_nat _ _ (by omega) (by omega)])
            | (have h2 : ¬ x % 2 = 1 := fun e => by
                 rw [e] at hbit
                 simp at hbit
               rw [if_neg h2]
               congr 1)
        case measure => simp [intOf]; omega
    · go_wp2
      go_ret
      have : k = 8 := by omega
      subst this
      rw [← hq]
      exact ⟨rfl, rfl⟩
theorem xor_byte_lt (s c : Nat) (hs : s < 4294967296) (hc : c < 256) : s ^^^ c < 4294967296 := Nat.xor_lt_two_pow (n := 32) (by omega) (by omega)
theorem foldN_lt : ∀ (xs : List Nat) (s : Nat), s < 4294967296 → (∀ x ∈ xs, x < 256) → foldN s xs < 4294967296
  | [], _, hs, _ => hs
  | c :: r, s, hs, h => foldN_lt r _ (stepsN_lt _ (xor_byte_lt s c hs (h c (.head _))) 8) fun x hx => h x (.tail _ hx)
theorem foldN_snoc (s : Nat) (xs : List Nat) (c : Nat) : foldN s (xs ++ [c]) = stepsN 8 (foldN s xs ^^^ c) := by simp [foldN]
set_option maxRecDepth 100000 in
set_option maxHeartbeats 1000000 in
theorem more_any (s bk o cap : Nat) (xs : List Nat) (w : World) (hs : s < 4294967296) (hb : ∀ x ∈ xs, x < 256) (hcell : ∀ (j : Nat) x, xs[j]? = some x → w.cell? ⟨bk, o + j, none⟩ = some (.int .u8 (x : Int))) (hn : xs.length < 4611686018427387904) :
    Calls Tryz.prog 163 #[.int .u32 s, .slice (some ⟨bk, o, none⟩) xs.length cap] w fun e w' => e = .returned (.int .u32 (4294967295 ^^^ foldN (4294967295 ^^^ s) xs : Nat)) ∧ w' = w := by
  have hx : bits .xor .u32 IntKind.u32.max (s : Int) = ((4294967295 ^^^ s : Nat) : Int) := u32_xor_nat 4294967295 s (by omega) hs
  have hx1 : 4294967295 ^^^ s < 4294967296 := Nat.xor_lt_two_pow (n := 32) (by omega) (by omega)
  go_enter Tryz.func163, Tryz.ntmps163
  go_wp2
  clear hx
  go_loop [5, 12] (fun s5 i => ∃ k : Nat, k ≤ xs.length ∧ i = .int .i64 k ∧ s5 = .int .u32 (foldN (4294967295 ^^^ s) (xs.take k) : Nat)) (fun _ i => xs.length - (intOf i).toNat)
  case atStart => exact ⟨0, Nat.zero_le _, rfl, rfl⟩
  case round =>
    obtain ⟨k, hk, rfl, rfl⟩ := hrel
    have hlt := foldN_lt (xs.take k) (4294967295 ^^^ s) hx1 (fun x h => hb x (List.mem_of_mem_take h))
    by_cases hk8 : k < xs.length
    · have hck := hcell k xs[k] (List.getElem?_eq_getElem hk8)
      clear hcell
      have hbk := hb xs[k] (List.getElem_mem hk8)
      have hsn := foldN_snoc (4294967295 ^^^ s) (xs.take k) xs[k]
      rw [← List.take_succ_eq_append_getElem hk8] at hsn
      generalize hq : foldN (4294967295 ^^^ s) (xs.take k) = x at hlt hsn
      generalize hy : xs[k] = y at hck hbk hsn
      have HS : Hid (foldN (4294967295 ^^^ s) (xs.take (k + 1)) = stepsN 8 (x ^^^ y)) := hsn
      clear hsn hq hy
      go_wp2_with (go_at_call 207; refine (byByte_any x y _ hlt hbk).mono ?_; rintro e w' ⟨rfl, rfl⟩)
      all_goals
        go_round
        case rel => exact ⟨k + 1, by omega, by go_num, by rw [HS.out]⟩
        case measure => simp [intOf]; omega
    · have hk2 : k = xs.length := by omega
      subst hk2
      rw [List.take_length] at hlt ⊢
      have hy : bits .xor .u32 IntKind.u32.max (foldN (4294967295 ^^^ s) xs : Int) = ((4294967295 ^^^ foldN (4294967295 ^^^ s) xs : Nat) : Int) := u32_xor_nat 4294967295 _ (by omega) hlt
      go_wp2
      go_ret
      exact ⟨rfl, rfl⟩
set_option maxRecDepth 100000 in
set_option maxHeartbeats 1000000 in
theorem more_none (s c : Nat) (a : Option Addr) (w : World) (hs : s < 4294967296) :
    Calls Tryz.prog 163 #[.int .u32 s, .slice a 0 c] w fun e w' => e = .returned (.int .u32 (4294967295 ^^^ (4294967295 ^^^ s) : Nat)) ∧ w' = w := by
  have hx : bits .xor .u32 IntKind.u32.max (s : Int) = ((4294967295 ^^^ s : Nat) : Int) := u32_xor_nat 4294967295 s (by omega) hs
  have hx1 : 4294967295 ^^^ s < 4294967296 := Nat.xor_lt_two_pow (n := 32) (by omega) (by omega)
  have hy : bits .xor .u32 IntKind.u32.max ((4294967295 ^^^ s : Nat) : Int) = ((4294967295 ^^^ (4294967295 ^^^ s) : Nat) : Int) := u32_xor_nat 4294967295 _ (by omega) hx1
  go_enter Tryz.func163, Tryz.ntmps163
  go_wp2
  go_loop [5, 12] (fun s5 i => i = .int .i64 0 ∧ s5 = .int .u32 (4294967295 ^^^ s : Nat)) (fun _ _ => 0)
  case atStart => exact ⟨rfl, rfl⟩
  case round =>
    obtain ⟨rfl, rfl⟩ := hrel
    go_wp2
    go_ret
    exact ⟨rfl, rfl⟩
end Go.Proofs.YtinecjjgnjkgmaaGreatDoor
