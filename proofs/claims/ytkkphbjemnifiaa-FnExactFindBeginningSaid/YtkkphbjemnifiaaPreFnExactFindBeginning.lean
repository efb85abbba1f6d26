/-
What the arguments of FnExactFindBeginning read as, and the one pure statement of the law.
Conditions: the arguments lie within the form's reach.
-/
import Derived.Test.YtkkphbjemnifiaaPFnExactFindBeginningx12
import Derived.Test.YtkkphbjemnifiaaOpen
import Derived.KernelRfl
namespace Go.Proofs.Ytkkphbjemnifiaa.PFnExactFindBeginning
open Go.RowKit Go.Proofs.YtkkphbjemnifiaaW.PrintWords Go.Proofs.YtkkphbjemnifiaaW.PrintLast Go.Proofs.YtkkphbjemnifiaaW.PrintMore Go.Proofs.YtkkphbjemnifiaaO
def rd_L4 (xs : List (List S71)) (i : Int) : (List S71) := xs.getD i.toNat ([] : List S71)
theorem at_L4 {w : World} {A : Option Addr} {n : Nat} {xs : List (List S71)} (h : Kd.C (Kd.slice 71 k71) w A n xs) (i : Int) (h0 : 0 ≤ i) (h1 : i < n) : ∃ ad A0 c0, A = some ad ∧ w.cell? (ad.add i.toNat) = some (.slice A0 (rd_L4 xs i).length c0) ∧ (rd_L4 xs i).length ≤ c0 ∧ k71.C w A0 (rd_L4 xs i).length (rd_L4 xs i) := by
  obtain ⟨ad, c, e, _, hK, hc0⟩ := Kd.C_get h ([] : List S71) i h0 h1
  have hc : ∀ j u, c[j]? = some u → w.cell? (ad.add (i.toNat * 1 + j)) = some u := hc0
  obtain ⟨A0, c0, rfl, l0, g0⟩ := hK
  exact ⟨ad, A0, c0, e, by have hq := hc 0 _ rfl; rwa [Nat.mul_one, Nat.add_zero] at hq, l0, g0⟩
def fit71 (x : S71) : Prop := x.f0.size ≤ 140737488351232 ∧ (x.f1.length * 8 ≤ 140737488351232 ∧ ∀ y0 ∈ x.f1, (Lit.int .i64 y0).wf = true) ∧ (Lit.int .i64 x.f2).wf = true ∧ (Lit.int .i64 x.f3).wf = true ∧ (Lit.int .i64 x.f4).wf = true
theorem opens71 : Opens Try.prog 71 k71 fit71 := by
  have h := opens_struct (P := Try.prog) Try.underlying71 rfl (by kernel_rfl) (fields_cons (opens_string Try.underlying9 (by kernel_rfl)) (by rfl) (fields_cons (opens_slice (P := Try.prog) Try.underlying39 (by kernel_rfl) 8 (by kernel_rfl) (opens_int Try.underlying3 (by kernel_rfl))) (by rfl) (fields_cons (opens_int Try.underlying3 (by kernel_rfl)) (by rfl) (fields_cons (opens_int Try.underlying3 (by kernel_rfl)) (by rfl) (fields_one (opens_int Try.underlying3 (by kernel_rfl)))))))
  exact opens_iso (fun p => ⟨p.1, p.2.1, p.2.2.1, p.2.2.2.1, p.2.2.2.2⟩) (fun _ => rfl) (fun a h => h) h
def laws_FnExactFindBeginning.Pure : Prop := ∀ (l0 : List (S71)) (a1 : ByteArray), (l0.length * 64 ≤ 140737488351232 ∧ ∀ y0 ∈ l0, fit71 y0) → a1.size ≤ 140737488351232 → ∃ k, laws_FnExactFindBeginning.f k l0 a1 = some true
end Go.Proofs.Ytkkphbjemnifiaa.PFnExactFindBeginning
