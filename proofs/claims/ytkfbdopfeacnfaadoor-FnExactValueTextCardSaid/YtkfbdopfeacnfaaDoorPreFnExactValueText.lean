/-
What the arguments of FnExactValueText read as, and the one pure statement of the law.
Conditions: the arguments lie within the form's reach.
-/
import Derived.Test.YtkfbdopfeacnfaaDoorPFnExactValueTextx11
import Derived.Test.YtkfbdopfeacnfaaDoorOpen
import Derived.KernelRfl
namespace Go.Proofs.YtkfbdopfeacnfaaDoor.PFnExactValueText
open Go.RowKit Go.Proofs.YtkfbdopfeacnfaaDoorW.PrintWords Go.Proofs.YtkfbdopfeacnfaaDoorW.PrintLast Go.Proofs.YtkfbdopfeacnfaaDoorW.PrintMore Go.Proofs.YtkfbdopfeacnfaaDoorO
def rd_L3 (xs : List (List S64)) (i : Int) : (List S64) := xs.getD i.toNat ([] : List S64)
theorem at_L3 {w : World} {A : Option Addr} {n : Nat} {xs : List (List S64)} (h : Kd.C (Kd.slice 64 k64) w A n xs) (i : Int) (h0 : 0 ≤ i) (h1 : i < n) : ∃ ad A0 c0, A = some ad ∧ w.cell? (ad.add i.toNat) = some (.slice A0 (rd_L3 xs i).length c0) ∧ (rd_L3 xs i).length ≤ c0 ∧ k64.C w A0 (rd_L3 xs i).length (rd_L3 xs i) := by
  obtain ⟨ad, c, e, _, hK, hc0⟩ := Kd.C_get h ([] : List S64) i h0 h1
  have hc : ∀ j u, c[j]? = some u → w.cell? (ad.add (i.toNat * 1 + j)) = some u := hc0
  obtain ⟨A0, c0, rfl, l0, g0⟩ := hK
  exact ⟨ad, A0, c0, e, by have hq := hc 0 _ rfl; rwa [Nat.mul_one, Nat.add_zero] at hq, l0, g0⟩
def fit64 (x : S64) : Prop := x.f0.size ≤ 140737488351232 ∧ (Lit.int .i64 x.f1).wf = true ∧ (Lit.int .i64 x.f2).wf = true ∧ x.f3.size ≤ 140737488351232 ∧ (Lit.int .i64 x.f4).wf = true
theorem opens64 : Opens Tryd.prog 64 k64 fit64 := by
  have h := opens_struct (P := Tryd.prog) Tryd.underlying64 rfl (by kernel_rfl) (fields_cons (opens_string Tryd.underlying9 (by kernel_rfl)) (by rfl) (fields_cons (opens_int Tryd.underlying3 (by kernel_rfl)) (by rfl) (fields_cons (opens_int Tryd.underlying3 (by kernel_rfl)) (by rfl) (fields_cons (opens_string Tryd.underlying9 (by kernel_rfl)) (by rfl) (fields_one (opens_int Tryd.underlying3 (by kernel_rfl)))))))
  exact opens_iso (fun p => ⟨p.1, p.2.1, p.2.2.1, p.2.2.2.1, p.2.2.2.2⟩) (fun _ => rfl) (fun a h => h) h
def laws_FnExactValueText.Pure : Prop := ∀ (l0 : List (S64)), (l0.length * 56 ≤ 140737488351232 ∧ ∀ y0 ∈ l0, fit64 y0) → ∃ k, laws_FnExactValueText.f k l0 = some true
end Go.Proofs.YtkfbdopfeacnfaaDoor.PFnExactValueText
