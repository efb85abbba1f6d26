/-
What the arguments of FnExactGoodEdge read as, and the one pure statement of the law.
Conditions: the arguments lie within the form's reach.
-/
import Derived.Test.YtanebapjclkikaaPFnExactGoodEdgex3
import Derived.Test.YtanebapjclkikaaOpen
import Derived.KernelRfl
namespace Go.Proofs.Ytanebapjclkikaa.PFnExactGoodEdge
open Go.RowKit Go.Proofs.YtanebapjclkikaaW.PrintWords Go.Proofs.YtanebapjclkikaaW.PrintLast Go.Proofs.YtanebapjclkikaaW.PrintMore Go.Proofs.YtanebapjclkikaaO
structure S63 where
  f0 : Int
  f1 : (List ByteArray)
def z63 : S63 := ⟨(0 : Int), ([] : List ByteArray)⟩
def k63 : Kd S63 := Kd.iso (Kd.pair (Kd.int .i64) (Kd.slice 9 Kd.string)) (fun x : S63 => (x.f0, x.f1))
theorem k63_open {w : World} {x : S63} {cs : List Value} (h : k63.K w x cs) : ∃ A1 c1, cs = [.int .i64 x.f0, .slice A1 x.f1.length c1] ∧ x.f1.length ≤ c1 ∧ Kd.string.C w A1 x.f1.length x.f1 := by
  obtain ⟨_, _, rfl, rfl, ⟨A1, c1, rfl, l1, g1⟩⟩ := h
  exact ⟨A1, c1, rfl, l1, g1⟩
theorem k63_openM {w : World} {base : Nat} {ok : Nat → Prop} {x : S63} {cs : List Value} (h : k63.M w base ok x cs) : ∃ v1, cs = [.int .i64 x.f0, v1] ∧ Kd.string.R 9 w base ok v1 x.f1 := by
  obtain ⟨_, _, rfl, rfl, ⟨v1, rfl, g1⟩⟩ := h
  exact ⟨v1, rfl, g1⟩
theorem k63_mk (w : World) (x : S63) {A1 : Option Addr} {c1 : Nat} (l1 : x.f1.length ≤ c1) (g1 : Kd.string.C w A1 x.f1.length x.f1) : k63.K w x [.int .i64 x.f0, .slice A1 x.f1.length c1] := ⟨[.int .i64 x.f0], [.slice A1 x.f1.length c1], rfl, rfl, ⟨A1, c1, rfl, l1, g1⟩⟩
theorem k63_mkM (w : World) (base : Nat) (ok : Nat → Prop) (x : S63) {v1 : Value} (g1 : Kd.string.R 9 w base ok v1 x.f1) : k63.M w base ok x [.int .i64 x.f0, v1] := ⟨[.int .i64 x.f0], [v1], rfl, rfl, ⟨v1, rfl, g1⟩⟩
def rd_T63 (xs : List S63) (i : Int) : S63 := xs.getD i.toNat z63
theorem at_T63 {w : World} {A : Option Addr} {n : Nat} {xs : List S63} (h : Kd.C k63 w A n xs) (i : Int) (h0 : 0 ≤ i) (h1 : i < n) : ∃ ad A1 c1, A = some ad ∧ w.cell? (ad.add (i.toNat * 2)) = some (.int .i64 (rd_T63 xs i).f0) ∧ w.cell? ⟨(ad.add (i.toNat * 2)).block, (ad.add (i.toNat * 2)).off + 1, none⟩ = some (.slice A1 (rd_T63 xs i).f1.length c1) ∧ (rd_T63 xs i).f1.length ≤ c1 ∧ Kd.string.C w A1 (rd_T63 xs i).f1.length (rd_T63 xs i).f1 := by
  obtain ⟨ad, c, e, _, hK, hc0⟩ := Kd.C_get h z63 i h0 h1
  have hc : ∀ j u, c[j]? = some u → w.cell? (ad.add (i.toNat * 2 + j)) = some u := hc0
  obtain ⟨A1, c1, rfl, l1, g1⟩ := k63_open hK
  exact ⟨ad, A1, c1, e, hc 0 _ rfl, by rw [← add_field _ _ 1 (by omega)]; exact hc 1 _ rfl, l1, g1⟩
def fit63 (x : S63) : Prop := (Lit.int .i64 x.f0).wf = true ∧ (x.f1.length * 16 ≤ 140737488351232 ∧ ∀ y0 ∈ x.f1, y0.size ≤ 140737488351232)
theorem opens63 : Opens Try.prog 63 k63 fit63 := by
  have h := opens_struct (P := Try.prog) Try.underlying63 rfl (by kernel_rfl) (fields_cons (opens_int Try.underlying3 (by kernel_rfl)) (by rfl) (fields_one (opens_slice (P := Try.prog) Try.underlying38 (by kernel_rfl) 16 (by kernel_rfl) (opens_string Try.underlying9 (by kernel_rfl)))))
  exact opens_iso (fun p => ⟨p.1, p.2⟩) (fun _ => rfl) (fun a h => h) h
def laws_FnExactGoodEdge.Pure : Prop := ∀ (a0_0 : Int) (l0_1 : List ByteArray), fit63 (⟨a0_0, l0_1⟩ : S63) → ∃ k, laws_FnExactGoodEdge.f k a0_0 l0_1 = some true
end Go.Proofs.Ytanebapjclkikaa.PFnExactGoodEdge
