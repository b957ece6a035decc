/- The reader of a code (chapter 'kit' of the reference): a pick never fails and lies in its range. -/
import Derived.Test.YtbbpianfoimejaaQ26
import Derived.Test.YtbbpianfoimejaaQ4
namespace Go.Proofs.Ytbbpianfoimejaa.Pure
open Go.RowKit Go.Proofs.Ytbbpianfoimejaa.Q Go.Proofs.YtbbpianfoimejaaW.PrintWords Go.Proofs.YtbbpianfoimejaaW.PrintLast Go.Proofs.YtbbpianfoimejaaW.PrintMore

theorem rw64 {x : Int} (h0 : -9223372036854775808 ≤ x) (h1 : x ≤ 9223372036854775807) : wrap64 x = x := by
  unfold wrap64; omega

theorem xor_nonneg (x y : Int) (hx : 0 ≤ x) (hx' : x < 2 ^ 62) (hy : 0 ≤ y) (hy' : y < 2 ^ 62) : 0 ≤ Go.bits .xor .i64 x y := by
  obtain ⟨a, rfl⟩ : ∃ a : Nat, x = a := ⟨x.toNat, by omega⟩
  obtain ⟨b, rfl⟩ : ∃ b : Nat, y = b := ⟨y.toNat, by omega⟩
  have ha : a < 2 ^ 62 := by omega
  have hb : b < 2 ^ 62 := by omega
  have ha' : a % 2 ^ 64 = a := Nat.mod_eq_of_lt (by omega)
  have hb' : b % 2 ^ 64 = b := Nat.mod_eq_of_lt (by omega)
  have h := Nat.xor_lt_two_pow ha hb
  have e : Go.bits .xor .i64 (a : Int) (b : Int) = ((a ^^^ b : Nat) : Int) := by
    have e0 : Go.bits .xor .i64 (a : Int) (b : Int) = IntKind.i64.wrap ((BitVec.ofInt 64 (a : Int) ^^^ BitVec.ofInt 64 (b : Int)).toNat : Int) := rfl
    rw [e0, BitVec.ofInt_natCast, BitVec.ofInt_natCast, BitVec.toNat_xor, BitVec.toNat_ofNat, BitVec.toNat_ofNat, ha', hb', IntKind.wrap_i64]
    omega
  rw [e]
  exact Int.natCast_nonneg _

/-- All numbers of a list are bytes. -/
def Bts (b : List Int) : Prop := b.length ≤ 2000 ∧ ∀ x ∈ b, 0 ≤ x ∧ x ≤ 255
theorem Bts.at_ {b : List Int} (h : Bts b) (i : Int) : 0 ≤ rd b i ∧ rd b i ≤ 255 := by
  unfold rd
  by_cases hi : i.toNat < b.length
  · rw [List.getD_eq_getElem?_getD, List.getElem?_eq_getElem hi]; exact h.2 _ (List.getElem_mem hi)
  · rw [List.getD_eq_getElem?_getD, List.getElem?_eq_none (by omega)]; simp

theorem pick_ok (k : Nat) {b : List Int} {p n : Int} (hb : Bts b) (hp : 0 ≤ p ∧ p ≤ 1000000) (hn : 1 ≤ n) :
    ∃ v, spec_l6Rd_pick.f (k + 1) b p n = some (v, p + 1) ∧ 0 ≤ v ∧ v < n := by
  unfold spec_l6Rd_pick.f
  rw [if_neg (by omega), rw64 (x := p + 1) (by omega) (by omega)]
  simp only [spec_l6Rd_pick.j0]
  by_cases h0 : (b.length : Int) = 0
  · exact ⟨0, by rw [if_pos (by simpa using h0)], by omega, by omega⟩
  · rw [if_neg (by simpa using h0), show p + 1 - 1 = p by omega, rw64 (x := p) (by omega) (by omega)]
    have hlen : 0 < (b.length : Int) := by omega
    have hL := hb.1
    by_cases h1 : p < (b.length : Int)
    · rw [if_pos h1, if_pos hp.1, if_neg (by omega)]
      have hr := hb.at_ p
      rw [rw64 (by omega) (by omega), Int.tmod_eq_emod_of_nonneg hr.1]
      exact ⟨_, rfl, Int.emod_nonneg _ (by omega), Int.emod_lt_of_pos _ (by omega)⟩
    · rw [if_neg h1, if_neg h0]
      have q0 : 0 ≤ Int.tmod p (b.length : Int) := by rw [Int.tmod_eq_emod_of_nonneg hp.1]; exact Int.emod_nonneg _ (by omega)
      have q1 : Int.tmod p (b.length : Int) < (b.length : Int) := by rw [Int.tmod_eq_emod_of_nonneg hp.1]; exact Int.emod_lt_of_pos _ hlen
      rw [rw64 (x := p * 7) (by omega) (by omega), rw64 (x := p * 7 + 3) (by omega) (by omega)]
      have q2 : 0 ≤ Int.tmod (p * 7 + 3) (b.length : Int) := by rw [Int.tmod_eq_emod_of_nonneg (by omega)]; exact Int.emod_nonneg _ (by omega)
      have q3 : Int.tmod (p * 7 + 3) (b.length : Int) < (b.length : Int) := by rw [Int.tmod_eq_emod_of_nonneg (by omega)]; exact Int.emod_lt_of_pos _ hlen
      rw [if_pos q0, if_pos q1, if_pos q2, if_pos q3, if_neg (by omega)]
      have hr := hb.at_ (Int.tmod p (b.length : Int))
      have hs := hb.at_ (Int.tmod (p * 7 + 3) (b.length : Int))
      have hd : 0 ≤ Int.tdiv p (b.length : Int) ∧ Int.tdiv p (b.length : Int) ≤ p := by
        rw [Int.tdiv_eq_ediv_of_nonneg hp.1]
        exact ⟨Int.ediv_nonneg hp.1 (by omega), Int.ediv_le_self _ hp.1⟩
      generalize rd b (Int.tmod p (b.length : Int)) = u at *
      generalize rd b (Int.tmod (p * 7 + 3) (b.length : Int)) = v at *
      generalize Int.tdiv p (b.length : Int) = d at *
      rw [rw64 (x := u) (by omega) (by omega), rw64 (x := v) (by omega) (by omega), rw64 (x := u * 131) (by omega) (by omega), rw64 (x := v * 1117) (by omega) (by omega),
        rw64 (x := u * 131 + v * 1117) (by omega) (by omega), rw64 (x := p * 29) (by omega) (by omega), rw64 (x := u * 131 + v * 1117 + p * 29) (by omega) (by omega),
        rw64 (x := d) (by omega) (by omega), rw64 (x := d * 53) (by omega) (by omega), rw64 (x := u * 131 + v * 1117 + p * 29 + d * 53) (by omega) (by omega)]
      have hx : 0 ≤ u * 131 + v * 1117 + p * 29 + d * 53 := by omega
      have hx' : u * 131 + v * 1117 + p * 29 + d * 53 < 2 ^ 60 := by omega
      generalize u * 131 + v * 1117 + p * 29 + d * 53 = x at *
      have hy : 0 ≤ Int.tdiv x 64 ∧ Int.tdiv x 64 < 2 ^ 60 := by rw [Int.tdiv_eq_ediv_of_nonneg hx]; omega
      rw [rw64 (x := Int.tdiv x 64) (by omega) (by omega)]
      have hz := xor_nonneg x (Int.tdiv x 64) hx (by omega) hy.1 (by omega)
      rw [Int.tmod_eq_emod_of_nonneg hz]
      exact ⟨_, rfl, Int.emod_nonneg _ (by omega), Int.emod_lt_of_pos _ (by omega)⟩

theorem open_ok {l : List Int} (hl : ∀ x ∈ l, (Lit.int .u8 x).wf = true) : ∃ b, spec_l6Open.f l = some (b, 0) ∧ Bts b := by
  have hb : ∀ x ∈ l, 0 ≤ x ∧ x ≤ 255 := fun x hx => by
    have := hl x hx
    simp [Lit.wf, IntKind.min, IntKind.max, IntKind.signed, IntKind.bits] at this
    omega
  unfold spec_l6Open.f
  by_cases h : (l.length : Int) > 2000
  · rw [if_pos h, if_pos (by omega)]
    exact ⟨_, rfl, by rw [List.length_take]; omega, fun x hx => hb x (List.mem_of_mem_take hx)⟩
  · rw [if_neg h]
    exact ⟨_, rfl, by omega, hb⟩
end Go.Proofs.Ytbbpianfoimejaa.Pure
