/- The heap of remainders: how it is made, and how its top is taken. -/
import Derived.Test.YtfmjhckndlngaaaHeapD
namespace Go.Proofs.Ytfmjhckndlngaaa.HeapW
open Go.RowKit Go.Proofs.Ytfmjhckndlngaaa.Q Go.Proofs.YtfmjhckndlngaaaW.PrintWords Go.Proofs.YtfmjhckndlngaaaW.PrintLast Go.Proofs.YtfmjhckndlngaaaW.PrintMore
set_option linter.unusedVariables false
set_option linter.unusedSimpArgs false
def iniR : Nat → (Nat → Rem) → Nat → (Nat → Rem)
  | 0, a, _ => a
  | k + 1, a, n => iniR k (dnR n a k n) n
theorem down_callsI (hb g c N : Nat) (a : Nat → Rem) (m : Nat) (i n : Nat) (x y : Int) (ex : (i : Int) = x) (ey : (n : Int) = y) (hn : n ≤ N) (hm : N ≤ m) (hs : m ≤ 1000) (hi : i ≤ 1000) (w : World) (h : HP w hb g c N a m) (hne : g ≠ hb) :
    Calls Try.prog 46 #[.iface 46 (.pointer (some ⟨hb, 0, none⟩)), .int .i64 x, .int .i64 y] w fun e w' => (∃ v, e = .returned v) ∧ HP w' hb g c N (dnR n a i n) m ∧ w.grownBy w' (some g) := by
  subst ex ey
  exact down_calls hb g c N a m i n hn hm hs hi w h hne
theorem init_calls (hb g c N : Nat) (a : Nat → Rem) (m : Nat) (hm : N ≤ m) (hs : m ≤ 1000) (w : World) (h : HP w hb g c N a m) (hne : g ≠ hb) :
    Calls Try.prog 39 #[.iface 46 (.pointer (some ⟨hb, 0, none⟩))] w fun e w' => (∃ v, e = .returned v) ∧ HP w' hb g c N (iniR (N / 2) a N) m ∧ w.grownBy w' (some g) := by
  have HA := Aside0.mk h
  have HG := Aside0.mk (grown_refl w (some g))
  have hm2 := h.hm2
  clear h
  have e0 : (N : Int).tdiv 2 = ((N / 2 : Nat) : Int) := by simp
  have e1 : N / 2 ≤ N := Nat.div_le_self N 2
  obtain ⟨K, hK⟩ : ∃ K, N / 2 = K := ⟨_, rfl⟩
  rw [hK] at e0 e1 ⊢
  clear hK
  go_enter Try.func39, Try.ntmps39
  go_wp2_with (first | ((go_at_call 63); (with_reducible refine (len_calls _ _ _ _).mono ?_); rintro e w1 ⟨rfl, hd⟩; have n0_ := Aside0.mk (HA.out.drawn hd); have n1_ := Aside0.mk (grown_drawn HG.out hd); clear HA HG hm2 hd; have HA := n0_; have HG := n1_; clear n0_ n1_))
  go_loopg [3] (K + 1) (fun f v3 w' => ∃ (k : Nat) (a' : Nat → Rem), v3 = .int .i64 ((k : Int) - 1) ∧ Aside0 (k ≤ K ∧ f = k + 1) ∧ Aside0 (HP w' hb g c N a' m) ∧ Aside0 (w.grownBy w' (some g)) ∧ Aside0 (iniR K a N = iniR k a' N))
  case atStart => exact ⟨K, a, (by first | rfl | (simp [e0]; done) | (simp [e0]; omega)), ⟨Nat.le_refl _, rfl⟩, HA, HG, ⟨rfl⟩⟩
  case round =>
    obtain ⟨k, a', rfl, HI, HA2, HG2, HD⟩ := hrel
    clear HA HG
    have HA := HA2
    have HG := HG2
    clear HA2 HG2
    cases k with
    | zero =>
      have c1 : decide ((0 : Int) ≤ ((0 : Nat) : Int) - 1) = false := by decide
      go_wp2
      go_end0
      exact ⟨⟨_, rfl⟩, by rw [HD.out]; exact HA.out, HG.out⟩
    | succ k =>
      have hk := HI.out.1
      have hgk := HI.out.2
      have c1 : decide ((0 : Int) ≤ ((k + 1 : Nat) : Int) - 1) = true := decide_eq_true (by omega)
      have c2 : ((k + 1 : Nat) : Int) - 1 = (k : Int) := by omega
      go_wp2_with (first | ((go_at_call 46); (with_reducible refine (down_callsI hb g c N a' m k N _ _ (by omega) rfl (Nat.le_refl _) hm hs (by omega) _ HA.out hne).mono ?_); rintro e w1 ⟨⟨v_, rfl⟩, hA2, hg2⟩; have n0_ := Aside0.mk hA2; have n1_ := Aside0.mk (grown_trans HG.out hg2); clear HA HG hA2 hg2; have HA := n0_; have HG := n1_; clear n0_ n1_))
      go_roundg (k + 1)
      case measure => omega
      case rel => exact ⟨k, dnR N a' k N, (by first | rfl | (simp; done) | (simp; omega)), ⟨by omega, rfl⟩, HA, HG, ⟨HD.out⟩⟩
/-- All but two blocks stay. -/
structure G2 (w w' : World) (g hb : Nat) : Prop where
  os : w'.os = w.os
  tape : w'.tape = w.tape
  output : w'.output = w.output
  size : w.heap.size ≤ w'.heap.size
  block : ∀ k, k < w.heap.size → k ≠ g → k ≠ hb → w'.heap[k]? = w.heap[k]?
theorem G2.of {w w' : World} {g hb : Nat} (h : w.grownBy w' (some g)) : G2 w w' g hb := ⟨h.os, h.tape, h.output, h.size, fun k hk h1 _ => h.block k hk (fun e => h1 (by injection e))⟩
theorem G2.of' {w w' : World} {g hb : Nat} (h : w.grownBy w' (some hb)) : G2 w w' g hb := ⟨h.os, h.tape, h.output, h.size, fun k hk _ h2 => h.block k hk (fun e => h2 (by injection e))⟩
theorem G2.drawn {w w1 w2 : World} {g hb : Nat} (h : G2 w w1 g hb) (hd : Drawn0 w1 w2) : G2 w w2 g hb := by
  have b := hd.below
  exact ⟨b.os.trans h.os, b.tape.trans h.tape, b.output.trans h.output, Nat.le_trans h.size b.size, fun q hq h1 h2 => (b.block q (Nat.lt_of_lt_of_le hq h.size)).trans (h.block q hq h1 h2)⟩
theorem G2.trans {w w1 w2 : World} {g hb : Nat} (h : G2 w w1 g hb) (k : G2 w1 w2 g hb) : G2 w w2 g hb :=
  ⟨k.os.trans h.os, k.tape.trans h.tape, k.output.trans h.output, Nat.le_trans h.size k.size, fun q hq h1 h2 => (k.block q (Nat.lt_of_lt_of_le hq h.size) h1 h2).trans (h.block q hq h1 h2)⟩
theorem G2.refl (w : World) (g hb : Nat) : G2 w w g hb := ⟨rfl, rfl, rfl, Nat.le_refl _, fun _ _ _ _ => rfl⟩
/-- What is left when the top is taken. -/
def topR (a : Nat → Rem) (N : Nat) : Nat → Rem := dnR (N - 1) (swpR a 0 (N - 1)) 0 (N - 1)
structure HQ (w : World) (hb g c N : Nat) (a : Nat → Rem) (m : Nat) : Prop where
  hp : HP w hb g c N a m
  fz : w.frozen? ⟨hb, 0, none⟩ = false
  gl : g < w.heap.size
theorem HQ.drawn {w w' : World} {hb g c N : Nat} {a : Nat → Rem} {m : Nat} (h : HQ w hb g c N a m) (hd : Drawn0 w w') : HQ w' hb g c N a m := by
  refine ⟨h.hp.drawn hd, ?_, Nat.lt_of_lt_of_le h.gl hd.below.size⟩
  obtain ⟨k, rfl⟩ := hd.out
  simpa using h.fz
theorem HQ.swapped {w w' : World} {hb g c N : Nat} {a a' : Nat → Rem} {m : Nat} (h : HQ w hb g c N a m) (hne : g ≠ hb) (hA : Arr w' g a' m) (hg : w.grownBy w' (some g)) : HQ w' hb g c N a' m :=
  ⟨h.hp.swapped hne hA hg, (World.frozen?_of_block (a := ⟨hb, 0, none⟩) (hg.block hb (World.block_lt_of_cell? w ⟨hb, 0, none⟩ h.hp.hv) (fun e => hne (by injection e with e; exact e.symm)))).trans h.fz, Nat.lt_of_lt_of_le h.gl hg.size⟩
theorem hpop_calls (hb g c N : Nat) (a : Nat → Rem) (m : Nat) (h0 : 0 < N) (hm : N ≤ m) (hs : m ≤ 1000) (hc : N ≤ c) (hcl : c ≤ maxLen) (w : World) (h : HQ w hb g c N a m) (hne : g ≠ hb) :
    Calls Try.prog 40 #[.iface 46 (.pointer (some ⟨hb, 0, none⟩))] w fun e w' => e = .returned (.iface 52 (.agg #[.int .i64 (topR a N (N - 1)).1, .int .i64 (topR a N (N - 1)).2])) ∧
      HQ w' hb g c (N - 1) (topR a N) m ∧ G2 w w' g hb := by
  obtain ⟨n, rfl⟩ : ∃ n, N = n + 1 := ⟨N - 1, by omega⟩
  have HA := Aside0.mk h
  have HG := Aside0.mk (G2.refl w g hb)
  have hm1 := h.hp.hm1
  have hm2 := h.hp.hm2
  have hm3 : ∀ w, (method 185 46 (.pointer (some ⟨hb, 0, none⟩)) "Pop").run Try.prog w = .ok (65, .pointer (some ⟨hb, 0, none⟩)) w := fun w => meth3 (185 - 1) _ w
  clear h
  have e1 : ((n + 1 : Nat) : Int) - 1 = (n : Int) := by omega
  go_enter Try.func40, Try.ntmps40
  go_wp2_with (first
    | ((go_at_call 63); (with_reducible refine (len_calls _ _ _ _).mono ?_); rintro e w1 ⟨rfl, hd⟩; have n0_ := Aside0.mk (HA.out.drawn hd); have n1_ := Aside0.mk (G2.drawn HG.out hd); clear HA HG hm1 hm2 hd; have HA := n0_; have HG := n1_; have hm1 := HA.out.hp.hm1; clear n0_ n1_)
    | ((go_at_call 66); (with_reducible refine (swap_callsI g (n + 1) c a m 0 n _ _ (by omega) (by omega) (by omega) (by omega) hm _ HA.out.hp.arr).mono ?_); rintro e w1 ⟨⟨v_, rfl⟩, hA2, hg2⟩; have n0_ := Aside0.mk (HA.out.swapped hne hA2 hg2); have n1_ := Aside0.mk (HG.out.trans (G2.of hg2)); clear HA HG hA2 hg2 hm1; have HA := n0_; have HG := n1_; clear n0_ n1_)
    | ((go_at_call 46); (with_reducible refine (down_callsI hb g c (n + 1) (swpR a 0 n) m 0 n _ _ (by omega) (by omega) (by omega) hm hs (by omega) _ HA.out.hp hne).mono ?_); rintro e w1 ⟨⟨v_, rfl⟩, hA2, hg2⟩; have n0_ := Aside0.mk (HA.out.swapped hne hA2.arr hg2); have n1_ := Aside0.mk (HG.out.trans (G2.of hg2)); clear HA HG hA2 hg2; have HA := n0_; have HG := n1_; clear n0_ n1_)
    | ((go_at_call 65); (with_reducible refine (pop_calls hb g (n + 1) c (dnR n (swpR a 0 n) 0 n) m h0 hm hc hcl _ HA.out.hp.arr HA.out.gl HA.out.hp.hv HA.out.fz hne).mono ?_); rintro e w1 ⟨rfl, hA2, hv2, hf2, hg2⟩; have n0_ := Aside0.mk (HQ.mk (HP.mk' hA2 hv2) hf2 (Nat.lt_of_lt_of_le HA.out.gl hg2.size)); have n1_ := Aside0.mk (HG.out.trans (G2.of' (g := g) hg2)); clear HA HG hA2 hg2 hv2 hf2; have HA := n0_; have HG := n1_; clear n0_ n1_))
  go_ret
  exact ⟨rfl, HA.out, HG.out⟩
end Go.Proofs.Ytfmjhckndlngaaa.HeapW
