/- The lowest bits of a number. -/
namespace Go.Proofs.Ytdbibbchpdklcaa.evLow
theorem lt (x N : Nat) : ∃ r : Nat, r < 2 ^ N ∧ x % 2 ^ N = r := ⟨x % 2 ^ N, Nat.mod_lt _ (Nat.two_pow_pos N), rfl⟩
end Go.Proofs.Ytdbibbchpdklcaa.evLow
