/-
What the arguments of FnExactJoinVotes read as, and the one pure statement of the law.
Conditions: the arguments lie within the form's reach.
-/
import Derived.Test.YtanebapjclkikaaPFnExactJoinVotesx4
import Derived.Test.YtanebapjclkikaaOpen
import Derived.KernelRfl
namespace Go.Proofs.Ytanebapjclkikaa.PFnExactJoinVotes
open Go.RowKit Go.Proofs.YtanebapjclkikaaW.PrintWords Go.Proofs.YtanebapjclkikaaW.PrintLast Go.Proofs.YtanebapjclkikaaW.PrintMore Go.Proofs.YtanebapjclkikaaO
def rd_L3 (xs : List (List S107)) (i : Int) : (List S107) := xs.getD i.toNat ([] : List S107)
theorem at_L3 {w : World} {A : Option Addr} {n : Nat} {xs : List (List S107)} (h : Kd.C (Kd.slice 107 k107) w A n xs) (i : Int) (h0 : 0 ≤ i) (h1 : i < n) : ∃ ad A0 c0, A = some ad ∧ w.cell? (ad.add i.toNat) = some (.slice A0 (rd_L3 xs i).length c0) ∧ (rd_L3 xs i).length ≤ c0 ∧ k107.C w A0 (rd_L3 xs i).length (rd_L3 xs i) := by
  obtain ⟨ad, c, e, _, hK, hc0⟩ := Kd.C_get h ([] : List S107) i h0 h1
  have hc : ∀ j u, c[j]? = some u → w.cell? (ad.add (i.toNat * 1 + j)) = some u := hc0
  obtain ⟨A0, c0, rfl, l0, g0⟩ := hK
  exact ⟨ad, A0, c0, e, by have hq := hc 0 _ rfl; rwa [Nat.mul_one, Nat.add_zero] at hq, l0, g0⟩
def fit105 (x : S105) : Prop := (Lit.int .i64 x.f0).wf = true ∧ (Lit.int .i64 x.f1).wf = true
theorem opens105 : Opens Try.prog 105 k105 fit105 := by
  have h := opens_struct (P := Try.prog) Try.underlying105 rfl (by kernel_rfl) (fields_cons (opens_int Try.underlying3 (by kernel_rfl)) (by rfl) (fields_one (opens_int Try.underlying3 (by kernel_rfl))))
  exact opens_iso (fun p => ⟨p.1, p.2⟩) (fun _ => rfl) (fun a h => h) h
def fit107 (x : S107) : Prop := (Lit.int .i64 x.f0).wf = true ∧ fit105 x.f1
theorem opens107 : Opens Try.prog 107 k107 fit107 := by
  have h := opens_struct (P := Try.prog) Try.underlying107 rfl (by kernel_rfl) (fields_cons (opens_int Try.underlying3 (by kernel_rfl)) (by rfl) (fields_one opens105))
  exact opens_iso (fun p => ⟨p.1, p.2⟩) (fun _ => rfl) (fun a h => h) h
def laws_FnExactJoinVotes.Pure : Prop := ∀ (l0 : List (S107)) (l1 : List (S107)), (l0.length * 24 ≤ 140737488351232 ∧ ∀ y0 ∈ l0, fit107 y0) → (l1.length * 24 ≤ 140737488351232 ∧ ∀ y0 ∈ l1, fit107 y0) → ∃ k, laws_FnExactJoinVotes.f k l0 l1 = some true
end Go.Proofs.Ytanebapjclkikaa.PFnExactJoinVotes
