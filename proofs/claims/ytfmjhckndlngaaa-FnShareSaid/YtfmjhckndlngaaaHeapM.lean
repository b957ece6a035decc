/- The heap of remainders: which function a call of a method through the interface enters. -/
import Derived.Test.YtfmjhckndlngaaaHeapW
namespace Go.Proofs.Ytfmjhckndlngaaa.HeapW
open Go.RowKit Go.Proofs.Ytfmjhckndlngaaa.Q Go.Proofs.YtfmjhckndlngaaaW.PrintWords Go.Proofs.YtfmjhckndlngaaaW.PrintLast Go.Proofs.YtfmjhckndlngaaaW.PrintMore
set_option linter.unusedVariables false
set_option linter.unusedSimpArgs false
set_option maxRecDepth 100000
theorem meth0 (k hb : Nat) (w : World) {v : Value} (hv : w.cell? ⟨hb, 0, none⟩ = some v) : (method (k + 1) 46 (.pointer (some ⟨hb, 0, none⟩)) "Less").run Try.prog w = .ok (64, v) w := by
  have h0 : (Array.find? (fun x => x.name == "Less") Try.t46.methods).isSome = true := by kernel_rfl
  have e1 : Array.find? (fun x => x.name == "Less") Try.t46.methods = some ((Array.find? (fun x => x.name == "Less") Try.t46.methods).get h0) := (Option.some_get h0).symm
  have e2 : ((Array.find? (fun x => x.name == "Less") Try.t46.methods).get h0).path = #[] := by kernel_rfl
  have e3 : ((Array.find? (fun x => x.name == "Less") Try.t46.methods).get h0).func = some (64, false) := by kernel_rfl
  generalize (Array.find? (fun x => x.name == "Less") Try.t46.methods).get h0 = mm at e1 e2 e3
  clear h0
  unfold method
  go_simp
  have f1 : (follow [] 46 (Place.val (.pointer (some ⟨hb, 0, none⟩)))).run Try.prog w = .ok (46, Place.val (.pointer (some ⟨hb, 0, none⟩))) w := rfl
  rw [f1]
  simp only [Result.andThen_ok]
  unfold receiverAt
  go_simp
  have f2 : (Place.get 46 (Place.val (.pointer (some ⟨hb, 0, none⟩)))).run Try.prog w = .ok (.pointer (some ⟨hb, 0, none⟩)) w := rfl
  rw [f2]
  simp only [Result.andThen_ok]
  have f3 : ∀ s1 s2 : String, (Builtin.ssaWrapNilChk_ #[46] 46 #[.pointer (some ⟨hb, 0, none⟩), strVal s1, strVal s2]).run Try.prog w = .ok (.pointer (some ⟨hb, 0, none⟩)) w := fun _ _ => rfl
  rw [f3]
  go_simp
theorem meth1 (k hb : Nat) (w : World) {v : Value} (hv : w.cell? ⟨hb, 0, none⟩ = some v) : (method (k + 1) 46 (.pointer (some ⟨hb, 0, none⟩)) "Swap").run Try.prog w = .ok (66, v) w := by
  have h0 : (Array.find? (fun x => x.name == "Swap") Try.t46.methods).isSome = true := by kernel_rfl
  have e1 : Array.find? (fun x => x.name == "Swap") Try.t46.methods = some ((Array.find? (fun x => x.name == "Swap") Try.t46.methods).get h0) := (Option.some_get h0).symm
  have e2 : ((Array.find? (fun x => x.name == "Swap") Try.t46.methods).get h0).path = #[] := by kernel_rfl
  have e3 : ((Array.find? (fun x => x.name == "Swap") Try.t46.methods).get h0).func = some (66, false) := by kernel_rfl
  generalize (Array.find? (fun x => x.name == "Swap") Try.t46.methods).get h0 = mm at e1 e2 e3
  clear h0
  unfold method
  go_simp
  have f1 : (follow [] 46 (Place.val (.pointer (some ⟨hb, 0, none⟩)))).run Try.prog w = .ok (46, Place.val (.pointer (some ⟨hb, 0, none⟩))) w := rfl
  rw [f1]
  simp only [Result.andThen_ok]
  unfold receiverAt
  go_simp
  have f2 : (Place.get 46 (Place.val (.pointer (some ⟨hb, 0, none⟩)))).run Try.prog w = .ok (.pointer (some ⟨hb, 0, none⟩)) w := rfl
  rw [f2]
  simp only [Result.andThen_ok]
  have f3 : ∀ s1 s2 : String, (Builtin.ssaWrapNilChk_ #[46] 46 #[.pointer (some ⟨hb, 0, none⟩), strVal s1, strVal s2]).run Try.prog w = .ok (.pointer (some ⟨hb, 0, none⟩)) w := fun _ _ => rfl
  rw [f3]
  go_simp
theorem meth2 (k hb : Nat) (w : World) {v : Value} (hv : w.cell? ⟨hb, 0, none⟩ = some v) : (method (k + 1) 46 (.pointer (some ⟨hb, 0, none⟩)) "Len").run Try.prog w = .ok (63, v) w := by
  have h0 : (Array.find? (fun x => x.name == "Len") Try.t46.methods).isSome = true := by kernel_rfl
  have e1 : Array.find? (fun x => x.name == "Len") Try.t46.methods = some ((Array.find? (fun x => x.name == "Len") Try.t46.methods).get h0) := (Option.some_get h0).symm
  have e2 : ((Array.find? (fun x => x.name == "Len") Try.t46.methods).get h0).path = #[] := by kernel_rfl
  have e3 : ((Array.find? (fun x => x.name == "Len") Try.t46.methods).get h0).func = some (63, false) := by kernel_rfl
  generalize (Array.find? (fun x => x.name == "Len") Try.t46.methods).get h0 = mm at e1 e2 e3
  clear h0
  unfold method
  go_simp
  have f1 : (follow [] 46 (Place.val (.pointer (some ⟨hb, 0, none⟩)))).run Try.prog w = .ok (46, Place.val (.pointer (some ⟨hb, 0, none⟩))) w := rfl
  rw [f1]
  simp only [Result.andThen_ok]
  unfold receiverAt
  go_simp
  have f2 : (Place.get 46 (Place.val (.pointer (some ⟨hb, 0, none⟩)))).run Try.prog w = .ok (.pointer (some ⟨hb, 0, none⟩)) w := rfl
  rw [f2]
  simp only [Result.andThen_ok]
  have f3 : ∀ s1 s2 : String, (Builtin.ssaWrapNilChk_ #[46] 46 #[.pointer (some ⟨hb, 0, none⟩), strVal s1, strVal s2]).run Try.prog w = .ok (.pointer (some ⟨hb, 0, none⟩)) w := fun _ _ => rfl
  rw [f3]
  go_simp
theorem meth3 (k : Nat) (p : Addr) (w : World) : (method (k + 1) 46 (.pointer (some p)) "Pop").run Try.prog w = .ok (65, .pointer (some p)) w := by kernel_rfl
end Go.Proofs.Ytfmjhckndlngaaa.HeapW
