/-
What the arguments of FnExactIndexOf read as, and the one pure statement of the law.
Conditions: the arguments lie within the form's reach.
-/
import Derived.Test.YtkkphbjemnifiaaPFnExactIndexOfx9
import Derived.Test.YtkkphbjemnifiaaOpen
import Derived.KernelRfl
namespace Go.Proofs.Ytkkphbjemnifiaa.PFnExactIndexOf
open Go.RowKit Go.Proofs.YtkkphbjemnifiaaW.PrintWords Go.Proofs.YtkkphbjemnifiaaW.PrintLast Go.Proofs.YtkkphbjemnifiaaW.PrintMore Go.Proofs.YtkkphbjemnifiaaO
def rd_L3 (xs : List (List S48)) (i : Int) : (List S48) := xs.getD i.toNat ([] : List S48)
theorem at_L3 {w : World} {A : Option Addr} {n : Nat} {xs : List (List S48)} (h : Kd.C (Kd.slice 48 k48) w A n xs) (i : Int) (h0 : 0 ≤ i) (h1 : i < n) : ∃ ad A0 c0, A = some ad ∧ w.cell? (ad.add i.toNat) = some (.slice A0 (rd_L3 xs i).length c0) ∧ (rd_L3 xs i).length ≤ c0 ∧ k48.C w A0 (rd_L3 xs i).length (rd_L3 xs i) := by
  obtain ⟨ad, c, e, _, hK, hc0⟩ := Kd.C_get h ([] : List S48) i h0 h1
  have hc : ∀ j u, c[j]? = some u → w.cell? (ad.add (i.toNat * 1 + j)) = some u := hc0
  obtain ⟨A0, c0, rfl, l0, g0⟩ := hK
  exact ⟨ad, A0, c0, e, by have hq := hc 0 _ rfl; rwa [Nat.mul_one, Nat.add_zero] at hq, l0, g0⟩
def fit48 (x : S48) : Prop := x.f0.size ≤ 140737488351232 ∧ (Lit.int .i64 x.f1).wf = true
theorem opens48 : Opens Try.prog 48 k48 fit48 := by
  have h := opens_struct (P := Try.prog) Try.underlying48 rfl (by kernel_rfl) (fields_cons (opens_string Try.underlying9 (by kernel_rfl)) (by rfl) (fields_one (opens_int Try.underlying3 (by kernel_rfl))))
  exact opens_iso (fun p => ⟨p.1, p.2⟩) (fun _ => rfl) (fun a h => h) h
def laws_FnExactIndexOf.Pure : Prop := ∀ (l0 : List (S48)), (l0.length * 24 ≤ 140737488351232 ∧ ∀ y0 ∈ l0, fit48 y0) → ∃ k, laws_FnExactIndexOf.f k l0 = some true
end Go.Proofs.Ytkkphbjemnifiaa.PFnExactIndexOf
