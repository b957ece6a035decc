/- The heap of remainders: how an element sinks. -/
import Derived.Test.YtfmjhckndlngaaaHeapM
namespace Go.Proofs.Ytfmjhckndlngaaa.HeapW
open Go.RowKit Go.Proofs.Ytfmjhckndlngaaa.Q Go.Proofs.YtfmjhckndlngaaaW.PrintWords Go.Proofs.YtfmjhckndlngaaaW.PrintLast Go.Proofs.YtfmjhckndlngaaaW.PrintMore
set_option linter.unusedVariables false
set_option linter.unusedSimpArgs false
/-- Sinking, so far as f steps. -/
def dnR : Nat → (Nat → Rem) → Nat → Nat → (Nat → Rem)
  | 0, a, _, _ => a
  | f + 1, a, i, n =>
    if n ≤ 2 * i + 1 then a else
    let j := if 2 * i + 2 < n ∧ lessR (a (2 * i + 2)) (a (2 * i + 1)) = true then 2 * i + 2 else 2 * i + 1
    if lessR (a j) (a i) = true then dnR f (swpR a i j) j n else a
/-- The heap as it lies: its header in block hb, the remainders in block g. -/
structure HP (w : World) (hb g c N : Nat) (a : Nat → Rem) (m : Nat) : Prop where
  arr : Arr w g a m
  hv : w.cell? ⟨hb, 0, none⟩ = some (.slice (some ⟨g, 0, none⟩) N c)
  hm0 : (method 185 46 (.pointer (some ⟨hb, 0, none⟩)) "Less").run Try.prog w = .ok (64, .slice (some ⟨g, 0, none⟩) N c) w
  hm1 : (method 185 46 (.pointer (some ⟨hb, 0, none⟩)) "Swap").run Try.prog w = .ok (66, .slice (some ⟨g, 0, none⟩) N c) w
  hm2 : (method 185 46 (.pointer (some ⟨hb, 0, none⟩)) "Len").run Try.prog w = .ok (63, .slice (some ⟨g, 0, none⟩) N c) w
theorem HP.mk' {w : World} {hb g c N : Nat} {a : Nat → Rem} {m : Nat} (h : Arr w g a m) (hv : w.cell? ⟨hb, 0, none⟩ = some (.slice (some ⟨g, 0, none⟩) N c)) : HP w hb g c N a m :=
  ⟨h, hv, meth0 (185 - 1) hb w hv, meth1 (185 - 1) hb w hv, meth2 (185 - 1) hb w hv⟩
theorem arr_drawn {w w' : World} {g : Nat} {a : Nat → Rem} {m : Nat} (h : Arr w g a m) (hd : Drawn0 w w') : Arr w' g a m := by
  obtain ⟨k, rfl⟩ := hd.out
  intro i hi
  have := h i hi
  simpa using this
theorem HP.drawn {w w' : World} {hb g c N : Nat} {a : Nat → Rem} {m : Nat} (h : HP w hb g c N a m) (hd : Drawn0 w w') : HP w' hb g c N a m := by
  refine HP.mk' (arr_drawn h.arr hd) ?_
  obtain ⟨k, rfl⟩ := hd.out
  simpa using h.hv
theorem grown_drawn {w w1 w2 : World} {g : Option Nat} (h : w.grownBy w1 g) (hd : Drawn0 w1 w2) : w.grownBy w2 g := by
  have b := hd.below
  obtain ⟨k, rfl⟩ := hd.out
  exact ⟨b.os.trans h.os, b.tape.trans h.tape, b.output.trans h.output, Nat.le_trans h.size b.size, fun q hq hne => (b.block q (Nat.lt_of_lt_of_le hq h.size)).trans (h.block q hq hne)⟩
theorem grown_trans {w w1 w2 : World} {g : Nat} (h : w.grownBy w1 (some g)) (k : w1.grownBy w2 (some g)) : w.grownBy w2 (some g) :=
  ⟨k.os.trans h.os, k.tape.trans h.tape, k.output.trans h.output, Nat.le_trans h.size k.size, fun q hq hne => (k.block q (Nat.lt_of_lt_of_le hq h.size) hne).trans (h.block q hq hne)⟩
theorem less_callsI (g n c : Nat) (a : Nat → Rem) (i j : Nat) (x y : Int) (ex : (i : Int) = x) (ey : (j : Int) = y) (hi : i < n) (hj : j < n) (w : World) (h : Arr w g a n) {b : Bool} (hb : lessR (a i) (a j) = b) :
    Calls Try.prog 64 #[.slice (some ⟨g, 0, none⟩) n c, .int .i64 x, .int .i64 y] w fun e w' => e = .returned (.bool b) ∧ Drawn0 w w' := by
  subst ex ey hb
  exact less_calls g n c a i j hi hj w h
theorem swap_callsI (g n c : Nat) (a : Nat → Rem) (m : Nat) (i j : Nat) (x y : Int) (ex : (i : Int) = x) (ey : (j : Int) = y) (hi : i < n) (hj : j < n) (hm : n ≤ m) (w : World) (h : Arr w g a m) :
    Calls Try.prog 66 #[.slice (some ⟨g, 0, none⟩) n c, .int .i64 x, .int .i64 y] w fun e w' => (∃ v, e = .returned v) ∧ Arr w' g (swpR a i j) m ∧ w.grownBy w' (some g) := by
  subst ex ey
  exact swap_calls g n c a m i j hi hj hm w h
theorem arr_le {w : World} {g : Nat} {a : Nat → Rem} {m n : Nat} (h : Arr w g a m) (hn : n ≤ m) : Arr w g a n := fun k hk => h k (by omega)
theorem HP.swapped {w w' : World} {hb g c N : Nat} {a a' : Nat → Rem} {m : Nat} (h : HP w hb g c N a m) (hne : g ≠ hb) (hA : Arr w' g a' m) (hg : w.grownBy w' (some g)) : HP w' hb g c N a' m :=
  HP.mk' hA ((World.cell?_of_block (a := ⟨hb, 0, none⟩) (hg.block hb (World.block_lt_of_cell? w ⟨hb, 0, none⟩ h.hv) (fun e => hne (by injection e with e; exact e.symm)))).trans h.hv)
set_option maxHeartbeats 1000000 in
theorem down_calls (hb g c N : Nat) (a : Nat → Rem) (m : Nat) (i n : Nat) (hn : n ≤ N) (hm : N ≤ m) (hs : m ≤ 1000) (hi : i ≤ 1000) (w : World) (h : HP w hb g c N a m) (hne : g ≠ hb) :
    Calls Try.prog 46 #[.iface 46 (.pointer (some ⟨hb, 0, none⟩)), .int .i64 i, .int .i64 n] w fun e w' => (∃ v, e = .returned v) ∧ HP w' hb g c N (dnR n a i n) m ∧ w.grownBy w' (some g) := by
  have HP0 := Aside0.mk h
  clear h
  go_enter Try.func46, Try.ntmps46
  go_wp2
  go_loopg [7] n (fun f v7 w' => ∃ (i' : Nat) (a' : Nat → Rem), v7 = .int .i64 i' ∧ Aside0 (i' ≤ 1000 ∧ n ≤ i' + f) ∧ Aside0 (HP w' hb g c N a' m) ∧ Aside0 (w.grownBy w' (some g)) ∧ Aside0 (dnR n a i n = dnR f a' i' n))
  case atStart => exact ⟨i, a, rfl, ⟨hi, by omega⟩, HP0, ⟨grown_refl _ _⟩, ⟨rfl⟩⟩
  case round =>
    obtain ⟨i', a', rfl, HI, HA, HG, HD⟩ := hrel
    clear HP0
    have hi' := HI.out.1
    have q1 : (0 : Int) ≤ (i' : Int) := by omega
    by_cases c1 : n ≤ 2 * i' + 1
    · have c1b : decide ((n : Int) ≤ 2 * (i' : Int) + 1) = true := decide_eq_true (by omega)
      go_wp2
      go_ret
      have e : dnR gk a' i' n = a' := by
        cases gk with
        | zero => rfl
        | succ k => rw [dnR, if_pos c1]
      exact ⟨⟨_, rfl⟩, by rw [HD.out, e]; exact HA.out, HG.out⟩
    · have c1b : decide ((n : Int) ≤ 2 * (i' : Int) + 1) = false := decide_eq_false (by omega)
      have c1c : decide (2 * (i' : Int) + 1 < 0) = false := decide_eq_false (by omega)
      obtain ⟨k, rfl⟩ : ∃ k, gk = k + 1 := ⟨gk - 1, by have := HI.out.2; omega⟩
      have f1 : ((2 * i' + 1 : Nat) : Int) = 2 * (i' : Int) + 1 := by omega
      have f2 : ((2 * i' + 2 : Nat) : Int) = 2 * (i' : Int) + 1 + 1 := by omega
      have hm0 := HA.out.hm0
      have hm1 := HA.out.hm1
      by_cases c2 : 2 * i' + 2 < n
      · have c2b : decide (2 * (i' : Int) + 1 + 1 < (n : Int)) = true := decide_eq_true (by omega)
        cases c3 : lessR (a' (2 * i' + 2)) (a' (2 * i' + 1))
        · have je : (if 2 * i' + 2 < n ∧ lessR (a' (2 * i' + 2)) (a' (2 * i' + 1)) = true then 2 * i' + 2 else 2 * i' + 1) = 2 * i' + 1 := if_neg (fun q => by rw [c3] at q; exact absurd q.2 (by decide))
          cases c4 : lessR (a' (2 * i' + 1)) (a' i')
          · go_wp2_with (first | ((go_at_call 64); (with_reducible refine (less_callsI g N c a' (2 * i' + 2) (2 * i' + 1) _ _ f2 f1 (by omega) (by omega) _ (arr_le HA.out.arr hm) c3).mono ?_); rintro e w1 ⟨rfl, hd⟩; have n0_ := Aside0.mk (HA.out.drawn hd); have n1_ := Aside0.mk (grown_drawn HG.out hd); clear HA HG hm0 hm1 hd; have HA := n0_; have HG := n1_; have hm0 := HA.out.hm0; have hm1 := HA.out.hm1; clear n0_ n1_) | ((go_at_call 64); (with_reducible refine (less_callsI g N c a' (2 * i' + 1) i' _ _ f1 rfl (by omega) (by omega) _ (arr_le HA.out.arr hm) c4).mono ?_); rintro e w1 ⟨rfl, hd⟩; have n0_ := Aside0.mk (HA.out.drawn hd); have n1_ := Aside0.mk (grown_drawn HG.out hd); clear HA HG hm0 hm1 hd; have HA := n0_; have HG := n1_; have hm0 := HA.out.hm0; have hm1 := HA.out.hm1; clear n0_ n1_))
            go_ret
            have e : dnR (k + 1) a' i' n = a' := by rw [dnR, if_neg c1]; simp only [je]; rw [if_neg (by rw [c4]; decide)]
            exact ⟨⟨_, rfl⟩, by rw [HD.out, e]; exact HA.out, HG.out⟩
          · go_wp2_with (first | ((go_at_call 64); (with_reducible refine (less_callsI g N c a' (2 * i' + 2) (2 * i' + 1) _ _ f2 f1 (by omega) (by omega) _ (arr_le HA.out.arr hm) c3).mono ?_); rintro e w1 ⟨rfl, hd⟩; have n0_ := Aside0.mk (HA.out.drawn hd); have n1_ := Aside0.mk (grown_drawn HG.out hd); clear HA HG hm0 hm1 hd; have HA := n0_; have HG := n1_; have hm0 := HA.out.hm0; have hm1 := HA.out.hm1; clear n0_ n1_) | ((go_at_call 64); (with_reducible refine (less_callsI g N c a' (2 * i' + 1) i' _ _ f1 rfl (by omega) (by omega) _ (arr_le HA.out.arr hm) c4).mono ?_); rintro e w1 ⟨rfl, hd⟩; have n0_ := Aside0.mk (HA.out.drawn hd); have n1_ := Aside0.mk (grown_drawn HG.out hd); clear HA HG hm0 hm1 hd; have HA := n0_; have HG := n1_; have hm0 := HA.out.hm0; have hm1 := HA.out.hm1; clear n0_ n1_) | ((go_at_call 66); (with_reducible refine (swap_callsI g N c a' m i' (2 * i' + 1) _ _ rfl f1 (by omega) (by omega) hm _ HA.out.arr).mono ?_); rintro e w1 ⟨⟨v_, rfl⟩, hA2, hg2⟩; have n0_ := Aside0.mk (HA.out.swapped hne hA2 hg2); have n1_ := Aside0.mk (grown_trans HG.out hg2); clear HA HG hm0 hm1 hA2 hg2; have HA := n0_; have HG := n1_; have hm0 := HA.out.hm0; have hm1 := HA.out.hm1; clear n0_ n1_))
            have e : dnR (k + 1) a' i' n = dnR k (swpR a' i' (2 * i' + 1)) (2 * i' + 1) n := by rw [dnR, if_neg c1]; simp only [je]; rw [if_pos c4]
            go_roundg k
            case measure => omega
            case rel => exact ⟨(2 * i' + 1), swpR a' i' (2 * i' + 1), (by first | rfl | (rw [f1]) | (simp [f1])), ⟨by omega, by have := HI.out.2; omega⟩, HA, HG, ⟨HD.out.trans e⟩⟩
        · have je : (if 2 * i' + 2 < n ∧ lessR (a' (2 * i' + 2)) (a' (2 * i' + 1)) = true then 2 * i' + 2 else 2 * i' + 1) = 2 * i' + 2 := if_pos ⟨c2, c3⟩
          cases c4 : lessR (a' (2 * i' + 2)) (a' i')
          · go_wp2_with (first | ((go_at_call 64); (with_reducible refine (less_callsI g N c a' (2 * i' + 2) (2 * i' + 1) _ _ f2 f1 (by omega) (by omega) _ (arr_le HA.out.arr hm) c3).mono ?_); rintro e w1 ⟨rfl, hd⟩; have n0_ := Aside0.mk (HA.out.drawn hd); have n1_ := Aside0.mk (grown_drawn HG.out hd); clear HA HG hm0 hm1 hd; have HA := n0_; have HG := n1_; have hm0 := HA.out.hm0; have hm1 := HA.out.hm1; clear n0_ n1_) | ((go_at_call 64); (with_reducible refine (less_callsI g N c a' (2 * i' + 2) i' _ _ f2 rfl (by omega) (by omega) _ (arr_le HA.out.arr hm) c4).mono ?_); rintro e w1 ⟨rfl, hd⟩; have n0_ := Aside0.mk (HA.out.drawn hd); have n1_ := Aside0.mk (grown_drawn HG.out hd); clear HA HG hm0 hm1 hd; have HA := n0_; have HG := n1_; have hm0 := HA.out.hm0; have hm1 := HA.out.hm1; clear n0_ n1_))
            go_ret
            have e : dnR (k + 1) a' i' n = a' := by rw [dnR, if_neg c1]; simp only [je]; rw [if_neg (by rw [c4]; decide)]
            exact ⟨⟨_, rfl⟩, by rw [HD.out, e]; exact HA.out, HG.out⟩
          · go_wp2_with (first | ((go_at_call 64); (with_reducible refine (less_callsI g N c a' (2 * i' + 2) (2 * i' + 1) _ _ f2 f1 (by omega) (by omega) _ (arr_le HA.out.arr hm) c3).mono ?_); rintro e w1 ⟨rfl, hd⟩; have n0_ := Aside0.mk (HA.out.drawn hd); have n1_ := Aside0.mk (grown_drawn HG.out hd); clear HA HG hm0 hm1 hd; have HA := n0_; have HG := n1_; have hm0 := HA.out.hm0; have hm1 := HA.out.hm1; clear n0_ n1_) | ((go_at_call 64); (with_reducible refine (less_callsI g N c a' (2 * i' + 2) i' _ _ f2 rfl (by omega) (by omega) _ (arr_le HA.out.arr hm) c4).mono ?_); rintro e w1 ⟨rfl, hd⟩; have n0_ := Aside0.mk (HA.out.drawn hd); have n1_ := Aside0.mk (grown_drawn HG.out hd); clear HA HG hm0 hm1 hd; have HA := n0_; have HG := n1_; have hm0 := HA.out.hm0; have hm1 := HA.out.hm1; clear n0_ n1_) | ((go_at_call 66); (with_reducible refine (swap_callsI g N c a' m i' (2 * i' + 2) _ _ rfl f2 (by omega) (by omega) hm _ HA.out.arr).mono ?_); rintro e w1 ⟨⟨v_, rfl⟩, hA2, hg2⟩; have n0_ := Aside0.mk (HA.out.swapped hne hA2 hg2); have n1_ := Aside0.mk (grown_trans HG.out hg2); clear HA HG hm0 hm1 hA2 hg2; have HA := n0_; have HG := n1_; have hm0 := HA.out.hm0; have hm1 := HA.out.hm1; clear n0_ n1_))
            have e : dnR (k + 1) a' i' n = dnR k (swpR a' i' (2 * i' + 2)) (2 * i' + 2) n := by rw [dnR, if_neg c1]; simp only [je]; rw [if_pos c4]
            go_roundg k
            case measure => omega
            case rel => exact ⟨(2 * i' + 2), swpR a' i' (2 * i' + 2), (by first | rfl | (rw [f2]) | (simp [f2])), ⟨by omega, by have := HI.out.2; omega⟩, HA, HG, ⟨HD.out.trans e⟩⟩
      · have c2b : decide (2 * (i' : Int) + 1 + 1 < (n : Int)) = false := decide_eq_false (by omega)
        have je : (if 2 * i' + 2 < n ∧ lessR (a' (2 * i' + 2)) (a' (2 * i' + 1)) = true then 2 * i' + 2 else 2 * i' + 1) = 2 * i' + 1 := if_neg (fun q => c2 q.1)
        cases c4 : lessR (a' (2 * i' + 1)) (a' i')
        · go_wp2_with (first | ((go_at_call 64); (with_reducible refine (less_callsI g N c a' (2 * i' + 1) i' _ _ f1 rfl (by omega) (by omega) _ (arr_le HA.out.arr hm) c4).mono ?_); rintro e w1 ⟨rfl, hd⟩; have n0_ := Aside0.mk (HA.out.drawn hd); have n1_ := Aside0.mk (grown_drawn HG.out hd); clear HA HG hm0 hm1 hd; have HA := n0_; have HG := n1_; have hm0 := HA.out.hm0; have hm1 := HA.out.hm1; clear n0_ n1_))
          go_ret
          have e : dnR (k + 1) a' i' n = a' := by rw [dnR, if_neg c1]; simp only [je]; rw [if_neg (by rw [c4]; decide)]
          exact ⟨⟨_, rfl⟩, by rw [HD.out, e]; exact HA.out, HG.out⟩
        · go_wp2_with (first | ((go_at_call 64); (with_reducible refine (less_callsI g N c a' (2 * i' + 1) i' _ _ f1 rfl (by omega) (by omega) _ (arr_le HA.out.arr hm) c4).mono ?_); rintro e w1 ⟨rfl, hd⟩; have n0_ := Aside0.mk (HA.out.drawn hd); have n1_ := Aside0.mk (grown_drawn HG.out hd); clear HA HG hm0 hm1 hd; have HA := n0_; have HG := n1_; have hm0 := HA.out.hm0; have hm1 := HA.out.hm1; clear n0_ n1_) | ((go_at_call 66); (with_reducible refine (swap_callsI g N c a' m i' (2 * i' + 1) _ _ rfl f1 (by omega) (by omega) hm _ HA.out.arr).mono ?_); rintro e w1 ⟨⟨v_, rfl⟩, hA2, hg2⟩; have n0_ := Aside0.mk (HA.out.swapped hne hA2 hg2); have n1_ := Aside0.mk (grown_trans HG.out hg2); clear HA HG hm0 hm1 hA2 hg2; have HA := n0_; have HG := n1_; have hm0 := HA.out.hm0; have hm1 := HA.out.hm1; clear n0_ n1_))
          have e : dnR (k + 1) a' i' n = dnR k (swpR a' i' (2 * i' + 1)) (2 * i' + 1) n := by rw [dnR, if_neg c1]; simp only [je]; rw [if_pos c4]
          go_roundg k
          case measure => omega
          case rel => exact ⟨(2 * i' + 1), swpR a' i' (2 * i' + 1), (by first | rfl | (rw [f1]) | (simp [f1])), ⟨by omega, by have := HI.out.2; omega⟩, HA, HG, ⟨HD.out.trans e⟩⟩
end Go.Proofs.Ytfmjhckndlngaaa.HeapW
